/- Walks: each function answers as its model, printed by a program of ours. Conditions: the arguments read as they are given. -/
import Derived.Test.YtpijdodljeieaaaGreatDoorBTs
import Derived.Test.YtpijdodljeieaaaGreatDoorBM13
import Derived.Test.YtpijdodljeieaaaGreatDoorBW0
import Derived.Test.YtpijdodljeieaaaGreatDoorBW1
import Derived.Test.YtpijdodljeieaaaGreatDoorBW3
import Derived.Test.YtpijdodljeieaaaGreatDoorBW6
import Derived.Test.YtpijdodljeieaaaGreatDoorBW7
import Derived.Test.YtpijdodljeieaaaGreatDoorBW9
import Derived.Test.YtpijdodljeieaaaGreatDoorBE
namespace Go.Sx
open Go Go.Proofs Go.Vm Rp
set_option linter.unusedVariables false
set_option linter.unusedSimpArgs false
variable {W W0:CW}{K:List Nat}
theorem c43 {x0 x r}(h0:Rd W0 [0] [x] x0)(Y:Vm.zig x0=some r):Q0 43 [x] W0 fun Wf v=> ∃ I J,v = .tuple [.agg [I,J].toArray,vI r.2.1,vS r.2.2].toArray/\OwS Wf [31] [] [I] r.1.Commits/\OwS Wf [32] [] [J] r.1.Heads:=by
 unfold Vm.zig at Y
 refine zaT.of Tryz.func43 O O O O (sr (al 2 [.slice none 0 0, .slice none 0 0] fun g1 W1 l1 b1=>?_))
 have L:=l1.o
 refine Gi O (Ns O (sr (mv x O (cr Y (fun _=>p75 (k0:=3) (h0.ul L)) ?_))))
 rintro y _ W6 Y N ⟨bc,be,rfl,ak,am⟩
 have z:=am.sub (M:=[0]) O
 have a8:=L.n N
 refine Np O (sr (mp O (cr Y (fun _=>p76 (k0:=4) (k1:=5) (c0:=3) (x0:=y) ak z O) ?_)))
 rintro f _ bg Y P ⟨A,B,rfl,Q,S,ao⟩
 have C:=P.s
 refine al 6 [.slice none 0 0, .slice none 0 0] fun bh bi a ap=>?_
 have D:=a.o
 refine sta ap (zaf (Q.up a).oc (zaf (S.up a).oc zaW)) fun bj h U=>?_
 have E:=h.s
 have V:=(Q.up a).up h
 have X:=(S.up a).up h
 refine nl (sr (mp O (la U (cr Y (fun _=>p77 (K:=[0,4,5]) (c0:=3) (x0:=(Vm.l30Rd.mk y.b f.2)) (x1:=(Vm.Repo.mk f.1.Commits f.1.Heads)) ((ao.up a).up h) ((z.ul ((C.trans D).trans E)).sub (M:=[0,4,5]) O) ((Repo.rd (K:=[4,5]) f.1.Commits f.1.Heads (V.rd.sub (M:=[4,5]) O) (X.rd.sub (M:=[4,5]) O)).sub (M:=[0,4,5]) O) O) ?_))))
 rintro aq _ bk Y i ⟨rfl,ar⟩
 have Z:=i.s
 refine Ni O (Cw.seq (Cw.draw [3] [(0,1),(1,0),(2,0),(3,2),(4,2),(5,3),(6,0),(7,0)] mixed (by kernel_rfl) fun au d=>?_))
 have aa:=d.o
 refine Mw.q O O (fun _ c=>R.lda (cs:=[A,B]) (((U.up i).up d).clcs O c) O O) (Di O (Dp O (Mw.t O O (T.bsS (α:=Str) (xs:=[([97]:Str),([98]:Str),([100]:Str),([100,47,101]:Str),([103]:Str),([113]:Str)]) 7 [] (W:=au) [vS ([97]:Str),vS ([98]:Str),vS ([100]:Str),vS ([100,47,101]:Str),vS ([103]:Str),vS ([113]:Str)] (Each.cons ((rdS _)) (Each.cons ((rdS _)) (Each.cons ((rdS _)) (Each.cons ((rdS _)) (Each.cons ((rdS _)) (Each.cons ((rdS _)) Each.nil)))))) O) ?_)))
 rintro bl _ ⟨bm,rfl,e,av⟩
 have ac:=e.o
 refine m0 e fun aw=>?_
 obtain⟨bn,ax,Y⟩:=ob Y
 refine Mw.t O O (T.call O (p86 (K:=[0,7]) (c0:=3) (x0:=(Vm.l30Rd.mk y.b aq.2)) ((ar.up d).up e) ((z.ul (((((C.trans D).trans E).trans Z).trans aa).trans ac)).sub (M:=[0,7]) O) (av.rd.sub (M:=[0,7]) O) O ax)) ?_
 rintro _ _ ⟨bp,rfl,k,⟨rfl,bq⟩⟩
 have ay:=((((((a8.trans C).trans D).trans E).trans Z).trans aa).trans ac).t k
 have ae:=(((V.up i).up d).up e).up k
 have af:=(((X.up i).up d).up e).up k
 refine mc aw k fun br=>Mw.lu O (T.sta (vs:=[A,B]) ((((((((b1.up N).up P).up a).up h).up i).up d).up e).up k) O O (zaf ae.oc (zaf af.oc zaW)) O O) ?_
 rintro _ _ ⟨bu,rfl,F,az⟩
 have a0:=ay.t F
 refine Hi O (Hs O (Mw.nil ?_))
 obtain⟨bv,a1,G,a3⟩:=(ae.up F).dyeO 31
 have a4:=a0.t G
 obtain⟨bw,a5,H,a6⟩:=((af.up F).up G).dyeO 32
 have a7:=a4.t H
 cases Y
 rw[<- a5.trans (a1)]
 exact Cw.ret (zx3 (zlR.c O ((az.up G).up H) (zlR.t O (zlR.t O zlR.n))) (Res.mk a7 ⟨A,B,O,(a3.up H).s,a6.s⟩))
theorem p43 {x0 d k0 k1 r}(f:Rd W K [d] x0)(Y:Vm.zig x0=some r):Q1 43 [d] W [] fun W' v=> ∃ a b,v = .tuple [.agg [a,b].toArray,vI r.2.1,vS r.2.2].toArray/\Ow W' k0 [] [a] r.1.Commits/\Ow W' k1 [] [b] r.1.Heads:=
 zaT.adJ (J:=[]) (fun c=>bif Nat.beq c 0 then 0 else bif Nat.beq c 31 then k0 else bif Nat.beq c 32 then k1 else 0) (c43 (f.view _) Y) fun _ _ ⟨a,b,e,h,i⟩=>⟨a,b,e,h.one1.backN O,i.one1.backN O⟩
theorem c152 {x0 e x1 r}(k:Rd W0 [0] [vS x0.Path,e] x0)(Y:Vm.znn x0 x1=some r):Q0 152 [.agg [vS x0.Path,e].toArray,vS x1] W0 fun Wf v=>v=vB r:=by
 unfold Vm.znn at Y
 obtain⟨H,f,I⟩:=File.split k
 simp only[List.cons.injEq,and_true,true_and]at f
 obtain rfl:=f
 refine zaT.of Tryz.func152 O O O O (sr (bo 2 O fun J h x i=>?_))
 have y:=x.o
 refine Nb O ?_
 obtain⟨z,A,Y⟩:=zc4 Y
 refine Cw.join 5 15 [4] (fun l w=> ∃ b d,CW.w d=w/\Le [] h d/\l=[vB b]/\z b=some r) ?_ ?_
 ·rintro _ _ σ ⟨b,d,rfl,B,rfl,Y⟩
  rw[A]at Y
  have C:=y.n B
  exact .ret (rt Y C)
 ·refine rg (fl i O (ms O (Lw.seq O (mb O (bs Y (fun a Y=>?_) fun a Y=>?_)))))
  ·exact psk 5 a O (Pb a O (Nb O ((ag) ⟨true,h,O,Le.refl _ _,O,Y⟩)))
  ·refine wak 5 a (fl i O (ms O ?_))
   obtain⟨K,D,Y⟩:=ob Y
   exact Lw.r O (R.sad D O O) (ca Y (fun _=>p142) fun E F Y G=>Pb a O (Nb O ((ag) ⟨E,F,O,G,O,Y⟩)))
theorem p152 {x0 a x1 r}(b:Rd W K [vS x0.Path,a] x0)(Y:Vm.znn x0 x1=some r):Q1 152 [.agg [vS x0.Path,a].toArray,vS x1] W [] fun W' v=>v=vB r:=
 (c152 (b.view _) Y).ad (fk 0) fun _ _ e=>e
theorem c131 {x0 A x1 r}(B:Rd W0 [0] [A] x0)(Y:Vm.zmj x0 x1=some r):Q0 131 [A,vS x1] W0 fun Wf v=> ∃ F,v=F/\OwS (α:=List (Sh Vm.File)) Wf LL [0] [F] r:=by
 unfold Vm.zmj at Y
 refine zaT.of Tryz.func131 O O O O (sr (Nv (.slice none 0 0) O (sr (Nv (.slice none 0 0) O (ssr (mv A O (Lw.ln x0 B O (mi O (nl (Cw.block ?_))))))))))
 obtain⟨U,V,Y⟩:=zc4 Y
 refine Cw.loop 10 21 [5,7,10] (fun m l w=> ∃ (h:List Vm.File) (i:Int) (a G:Value) (d:CW),d.w=w/\Le [2,3] W0 d/\l=[a,G,vI i]/\Ow (α:=List (Sh Vm.File)) d 2 [0] [a] h/\Vm.ziN x0 x1 U m h i=some r) _ ⟨([]:List File),0, .slice none 0 0,undef,W0,O,Le.refl _ _,O,zzP 2 [0],Y⟩ ?_
 rintro(_ |m8) _ _ σ ⟨h,i,a,G,d,rfl,H,rfl,I,Y⟩
 ·cases Y
 unfold Vm.ziN at Y
 have C:=H.s
 refine sr (Lw.lt O (nl (Cw.seq (cn Y (fun Y=>?_) fun Y=>?_))))
 ·refine sk ?_
  obtain⟨W,X,Y⟩:=zc4 Y
  refine Cw.join 12 20 [5,7] (fun l w=> ∃ (k:List Vm.File) (x D:Value) (e:CW),e.w=w/\Le [2,3] d e/\l=[x,D]/\Ow (α:=List (Sh Vm.File)) e 2 [0] [x] k/\W k=some r) ?_ ?_
  ·rintro _ _ σ ⟨k,x,D,e,rfl,Z,rfl,aa,Y⟩
   rw[X]at Y
   exact rg (Lw.add O (mi O (nl ((agm) ⟨k,w64 (i+1),x,D,e,O,(H.j Z).w,O,aa,Y⟩))))
  ·refine Cw.block (sr ?_)
   obtain⟨b,J,Y⟩:=ob Y
   refine Lw.r O (R.ix (α:=File) (B.ul C) J O O O) ?_
   obtain⟨x21,c22,_,r23⟩:=((B.ul C).at_ J).cells
   obtain⟨L,rfl,r25⟩:=File.split r23
   refine Lw.r O (R.lda c22 O O) (al 3 [vS ([]:Str), .slice none 0 0] fun M ar y ac=>?_)
   have ae:=y.o
   refine sta ac (zaf O (zaf r25.oc zaW)) fun au z N=>?_
   have P:=ae.t z
   refine nl (sr (la N (ms O (ca Y (fun _=>p152 (File.rd (K:=[0]) b.Path b.Text (r25.ul P))) fun av af Y f=>?_))))
   have ah:=P.n f
   have Q:=((I.up y).up z).up f
   refine nl (cn Y (fun Y=>?_) fun Y=>?_)
   ·refine rg (mv a O (la (N.up f) (Lw.t O (T.bs 4 [.agg [vS b.Path,L].toArray] (cs:=[vS b.Path,L]) O O (bsA O)) ?_)))
    rintro _ _ ⟨aw,ax,rfl,rfl,E,ai⟩
    have aj:=ah.n E
    obtain⟨ak,am,Y⟩:=ob Y
    refine Lw.t O (T.app1S (α:=Sh Vm.File) (K':=[0]) (Q.up E) ai (File.rd (K:=[0]) b.Path b.Text (r25.ul aj)).sh1 O O am) ?_
    rintro S _ ⟨an,rfl,ao,ap⟩
    exact Nv S O ((ag) ⟨ak,S,ptr (bx M),an,O,((((y.j z).j f).j E).j ao).w,O,ap,Y⟩)
   ·exact sk ((ag) ⟨h,a,ptr (bx M),af,O,((y.j z).j f).w,O,Q,Y⟩)
 ·refine Cw.exit ?_
  rw[V]at Y
  refine sr (mv a O (Nv a O ?_))
  cases Y
  exact Cw.ret (zmk O (Res.mk C ⟨a,O,I.s.sub O O⟩))
theorem p131 {x0 b x1 k0 r}(d:Rd W K [b] x0)(Y:Vm.zmj x0 x1=some r):Q1 131 [b,vS x1] W [] fun W' v=> ∃ a,v=a/\Ow (α:=List (Sh Vm.File)) W' k0 (0::K) [a] r:=
 (c131 (d.view _) Y).ad (fk k0) fun _ _ ⟨a,e,f⟩=>⟨a,e,f.backS (zlS _) O⟩
theorem c155 {x0 b x1 f r}(d:Rd W0 [0] [b] x0)(h:Rd W0 [0] [f] x1)(Y:Vm.zeo x0 x1=some r):Q0 155 [b,f] W0 fun Wf v=>v=vB r:=by
 unfold Vm.zeo at Y
 refine zaT.of Tryz.func155 O O O O (sr (Nb O (ssr (mv b O (Lw.ln x0 d O (mv f O (Lw.ln x1 h O (Lw.ne O (nl (cn Y (fun Y=>?_) fun Y=>?_))))))))))
 ·exact sr (Nb O (.ret (rt Y (Le.refl _ _))))
 ·refine sk (ssr (mv b O (Lw.ln x0 d O (mi O (nl (Cw.block ?_))))))
  obtain⟨C,D,Y⟩:=zc4 Y
  refine Cw.loop 13 25 [4,5,13] (fun m l w=> ∃ i e z k,CW.w k=w/\Le [] W0 k/\l=[vB i,z,vI e]/\Vm.zcB x0 x1 C m i e=some r) _ ⟨false,0,undef,W0,O,Le.refl _ _,O,Y⟩ ?_
  rintro(_ |F) _ _ σ ⟨i,e,z,k,rfl,A,rfl,Y⟩
  ·cases Y
  unfold Vm.zcB at Y
  have B:=A.o
  refine sr (Lw.lt O (nl (Cw.seq (cn Y (fun Y=>?_) fun Y=>?_))))
  ·refine sk (Cw.seq (Cw.block (sr (mi O (Ni O (Cw.seq (Cw.draw [] [(0,0),(1,0),(2,0),(3,1),(4,0),(5,0),(6,0),(7,1),(8,0)] mixed (by kernel_rfl) fun E l10=>?_)))))))
   have a:=B.n l10
   refine Dv b O (Di O ?_)
   obtain⟨G,x,Y⟩:=ob Y
   refine Mw.p O O (fun _=>R.ix (α:=Str) (d.ul a) x O O O) (Mw.q O O (fun _ c=>R.ld O O (zaD ((d.ul a).at_ x).1 O ((d.ul a).at_ x).str c)) (Dv f O (Di O ?_)))
   obtain⟨H,y,Y⟩:=ob Y
   refine Mw.p O O (fun _=>R.ix (α:=Str) (h.ul a) y O O O) (Mw.q O O (fun _ c=>R.ld O O (zaD ((h.ul a).at_ y).1 O ((h.ul a).at_ y).str c)) (Mw.p O O (fun _=>R.sne O O) (Mw.nil (cn Y (fun Y=>?_) fun Y=>?_))))
   ·exact sr (Nb O (.ret (rt Y a)))
   ·exact sk (rg (Lw.add O (mi O (nl ((agm) ⟨i,w64 (e+1),vI e,E,O,(A.j l10).w,O,Y⟩)))))
  ·refine Cw.exit ?_
   rw[D]at Y
   exact sr (Nb O (.ret (rt Y B)))
theorem p155 {x0 a x1 b r}(d:Rd W K [a] x0)(f:Rd W K [b] x1)(Y:Vm.zeo x0 x1=some r):Q1 155 [a,b] W [] fun W' v=>v=vB r:=
 (c155 (d.view _) (f.view _) Y).ad (fk 0) fun _ _ e=>e
theorem c154 {x0 h x1 i r}(B:Rd W0 [0] [vS x0.Path,h] x0)(C:Rd W0 [0] [vS x1.Path,i] x1)(Y:Vm.zkb x0 x1=some r):Q0 154 [.agg [vS x0.Path,h].toArray, .agg [vS x1.Path,i].toArray] W0 fun Wf v=>v=vB r:=by
 unfold Vm.zkb at Y
 obtain⟨P,k,D⟩:=File.split B
 simp only[List.cons.injEq,and_true,true_and]at k
 obtain rfl:=k
 obtain⟨Q,x,E⟩:=File.split C
 simp only[List.cons.injEq,and_true,true_and]at x
 obtain rfl:=x
 refine zaT.of Tryz.func154 O O O O (sr (bo 2 O fun R S F y=>?_))
 have G:=F.o
 refine bo 3 O fun T z b A=>?_
 have d:=G.n b
 refine Nb O ?_
 obtain⟨H,I,Y⟩:=zc4 Y
 refine Cw.join 5 16 [4] (fun l w=> ∃ e f,CW.w f=w/\Le [] z f/\l=[vB e]/\H e=some r) ?_ ?_
 ·rintro _ _ σ ⟨e,f,rfl,J,rfl,Y⟩
  rw[I]at Y
  have K:=d.n J
  exact .ret (rt Y K)
 ·refine rg (fl (y.up b) O (fl A O (Lw.seq O (mb O (bs Y (fun a Y=>?_) fun a Y=>?_)))))
  ·exact wak 5 a (fl (y.up b) O (fl A O (ca Y (fun _=>p155 (D.ul d) (E.ul d)) fun L M Y N=>Pb a O (Nb O ((ag) ⟨L,M,O,N,O,Y⟩)))))
  ·exact psk 5 a O (Pb a O (Nb O ((ag) ⟨false,z,O,Le.refl _ _,O,Y⟩)))
theorem p154 {x0 a x1 b r}(d:Rd W K [vS x0.Path,a] x0)(f:Rd W K [vS x1.Path,b] x1)(Y:Vm.zkb x0 x1=some r):Q1 154 [.agg [vS x0.Path,a].toArray, .agg [vS x1.Path,b].toArray] W [] fun W' v=>v=vB r:=
 (c154 (d.view _) (f.view _) Y).ad (fk 0) fun _ _ e=>e
theorem c153_154 {x0 d x1 e r}(f:Rd W0 [0] [d] x0)(E:Rd W0 [0] [e] x1)(Y:Vm.zaL x0 x1=some r):Q0 153 [d,e, .func (.func 154) #[] [].toArray] W0 fun Wf v=>v=vB r:=by
 unfold Vm.zaL at Y
 refine zaT.of Tryz.func153 O O O O (sr (Nb O (ssr (mv d O (Lw.ln x0 f O (mv e O (Lw.ln x1 E O (Lw.ne O (nl (cn Y (fun Y=>?_) fun Y=>?_))))))))))
 ·exact sr (Nb O (.ret (rt Y (Le.refl _ _))))
 ·refine sk (ssr (mv d O (Lw.ln x0 f O (mi O (nl (Cw.block ?_))))))
  obtain⟨S,U,Y⟩:=zc4 Y
  refine Cw.loop 17 31 [6,7,8,9,17] (fun m l w=> ∃ h a F G H i,CW.w i=w/\Le [2,3] W0 i/\l=[vB h,F,G,H,vI a]/\Vm.zam x0 x1 S m h a=some r) _ ⟨false,0,undef,undef,undef,W0,O,Le.refl _ _,O,Y⟩ ?_
  rintro(_ |m9) _ _ σ ⟨h,a,F,G,H,i,rfl,I,rfl,Y⟩
  ·cases Y
  unfold Vm.zam at Y
  have b:=I.s
  refine sr (Lw.lt O (nl (Cw.seq (cn Y (fun Y=>?_) fun Y=>?_))))
  ·refine sk (Cw.seq (Cw.block (sr (mi O ?_))))
   obtain⟨k,J,Y⟩:=ob Y
   refine Lw.r O (R.ix (α:=File) (f.ul b) J O O O) ?_
   obtain⟨x15,c16,_,r17⟩:=((f.ul b).at_ J).cells
   obtain⟨V,rfl,r19⟩:=File.split r17
   refine Lw.r O (R.lda c16 O O) (al 2 [vS ([]:Str), .slice none 0 0] fun W am L X=>?_)
   have x:=L.o
   refine Gi O (sta X (zaf O (zaf r19.oc zaW)) fun an M Z=>?_)
   have y:=M.s
   refine nl (sr (mv e O (mi O ?_)))
   obtain⟨z,N,Y⟩:=ob Y
   have P:=E.ul ((b.trans x).trans y)
   refine Lw.r O (R.ix (α:=File) P N O O O) ?_
   obtain⟨x27,c28,_,r29⟩:=(P.at_ N).cells
   obtain⟨aa,rfl,r31⟩:=File.split r29
   refine Lw.r O (R.lda c28 O O) (al 3 [vS ([]:Str), .slice none 0 0] fun ac ao A ae=>?_)
   have B:=A.o
   refine sta ae (zaf O (zaf r31.oc zaW)) fun ap C af=>?_
   have D:=C.s
   refine nl (sr (mv (.func (.func 154) #[] [].toArray) O (la ((Z.up A).up C) (la af ?_))))
   obtain⟨aq,ah,Y⟩:=ob Y
   refine Lw.t O (T.callV (vals:=[.agg [vS k.Path,V].toArray, .agg [vS z.Path,aa].toArray]) (caps:=[]) O O (p154 (File.rd (K:=[0]) k.Path k.Text (r19.ul (((x.trans y).trans B).trans D))) (File.rd (K:=[0]) z.Path z.Text (r31.ul (B.trans D))) ah)) ?_
   rintro _ _ ⟨ai,rfl,Q,rfl⟩
   have aj:=((((b.trans x).trans y).trans B).trans D).n Q
   refine Lw.r O (R.not O) (nl (cn Y (fun Y=>?_) fun Y=>?_))
   ·exact sr (Nb O (.ret (rt Y aj)))
   ·exact sk (rg (Lw.add O (mi O (nl ((agm) ⟨h,w64 (a+1),vI a,ptr (bx W),ptr (bx ac),ai,O,(((((I.j L).j M).j A).j C).j Q).w,O,Y⟩)))))
  ·refine Cw.exit ?_
   rw[U]at Y
   exact sr (Nb O (.ret (rt Y b)))
theorem p153_154 {x0 a x1 b r}(d:Rd W K [a] x0)(f:Rd W K [b] x1)(Y:Vm.zaL x0 x1=some r):Q1 153 [a,b, .func (.func 154) #[] [].toArray] W [] fun W' v=>v=vB r:=
 (c153_154 (d.view _) (f.view _) Y).ad (fk 0) fun _ _ e=>e
theorem c132 {x0 a x1 b r}(d:Rd W0 [0] [a] x0)(e:Rd W0 [0] [b] x1)(Y:Vm.zkn x0 x1=some r):Q0 132 [a,b] W0 fun Wf v=>v=vB r:=by
 unfold Vm.zkn at Y
 refine zaT.of Tryz.func132 O O O O (sr (Nb O (sr (mv a O (mv b O (ca Y (fun _=>p153_154 d e) fun i k Y f=>?_))))))
 have h:=f.o
 exact Nb O (.ret (rt Y h))
theorem p132 {x0 a x1 b r}(d:Rd W K [a] x0)(f:Rd W K [b] x1)(Y:Vm.zkn x0 x1=some r):Q1 132 [a,b] W [] fun W' v=>v=vB r:=
 (c132 (d.view _) (f.view _) Y).ad (fk 0) fun _ _ e=>e
theorem c83 {x0 F G x1 x2 r}(h0:Rd W0 [0] [F,G] x0)(Y:Vm.zh6 x0 x1 x2=some r):Q0 83 [.agg [F,G].toArray,vI x1,vS x2] W0 fun Wf v=>v=vB r:=by
 unfold Vm.zh6 at Y
 obtain⟨a1,a3,H,y,I⟩:=Repo.split h0
 simp only[List.cons.injEq,and_true,true_and]at H
 obtain⟨rfl,rfl⟩:=H
 refine zaT.of Tryz.func83 O O O O (sr (bo 2 O fun g1 W1 l1 J=>?_))
 have z:=l1.o
 refine Nb O (sr (la J (mi O (cr Y (fun _=>p100 (Repo.rd (K:=[0]) x0.Commits x0.Heads (y.ul z) (I.ul z))) ?_))))
 rintro z5 a7 W7 Y L ⟨_,rfl,ae⟩
 have s8:=ae.sub (M:=[0]) O
 have a9:=z.n L
 refine ms O (cr Y (fun _=>p131 (k0:=3) s8) ?_)
 rintro e a f Y N ⟨_,rfl,ai⟩
 have P:Ow (α:=List (Sh Vm.File)) f 3 [0] [a] e:=ai.sub O
 have b:=a9.n N
 have A:=(J.up L).up N
 refine Nv a O (ssr (fl A O (mi O ?_)))
 obtain⟨aj,Q,Y⟩:=ob Y
 have h:=y.ul b
 refine Lw.r O (R.ix (α:=Commit) h Q O O O) (Lw.fa O ?_)
 obtain⟨ba,c21,r22⟩:=(Commit.at0 (h.at_ Q)).cell O
 refine Lw.r O (R.ld O O c21) (Lw.ln aj.Parents r22 O (Lw.eq O (nl (cn Y (fun Y=>?_) fun Y=>?_))))
 ·refine sr ?_
  have ak:Rd (α:=List Vm.File) f [3,0] [a] e:=Ow.rdSh P
  exact mv a O (Lw.ln e ak O (Lw.gt O (Nb O (.ret (rt Y b)))))
 ·refine sk (ssr (fl A O (mi O ?_)))
  obtain⟨S,T,Y⟩:=ob Y
  refine Lw.r O (R.ix (α:=Commit) h T O O O) (Lw.fa O ?_)
  obtain⟨bb,c28,r29⟩:=(Commit.at0 (h.at_ T)).cell O
  refine Lw.r O (R.ld O O c28) (Lw.ln S.Parents r29 O (mi O (nl (Cw.block ?_))))
  obtain⟨am,an,Y⟩:=zc4 Y
  refine Cw.loop 33 44 [6,9,33] (fun m l w=> ∃ i k U B,CW.w B=w/\Le [] f B/\l=[vB i,U,vI k]/\Vm.zeT x0 x2 e S am m i k=some r) _ ⟨false,0,undef,f,O,Le.refl _ _,O,Y⟩ ?_
  rintro(_ |bc) _ _ σ ⟨i,k,U,B,rfl,x,rfl,Y⟩
  ·cases Y
  unfold Vm.zeT at Y
  have d:=x.o
  refine sr (Lw.lt O (nl (Cw.seq (cn Y (fun Y=>?_) fun Y=>?_))))
  ·refine sk (Cw.seq (Cw.block (sr ?_)))
   obtain⟨ao,V,Y⟩:=ob Y
   refine Lw.r O (R.ix (α:=Int) (r29.ul d) V O O O) (Lw.r O (R.ld O O ((r29.ul d).at_ V).int) (Ni O (sr (mv a O (la (A.up x) (mi O (cr Y (fun _=>p100 (Repo.rd (K:=[0]) x0.Commits x0.Heads (y.ul (b.trans d)) (I.ul (b.trans d)))) ?_)))))))
   rintro be bg bh Y C ⟨_,rfl,ap⟩
   have aq:=ap.sub (M:=[0]) O
   have ar:=(b.trans d).n C
   refine ms O (cr Y (fun _=>p131 (k0:=4) aq) ?_)
   rintro W X D Y E ⟨_,rfl,au⟩
   have av:Ow (α:=List (Sh Vm.File)) D 4 [0] [X] W:=au.sub O
   have aw:=ar.n E
   have ax:Rd (α:=List Vm.File) D [3,0] [a] e:=Ow.rdSh (((P.up x).up C).up E)
   have ay:Rd (α:=List Vm.File) D [4,0] [X] W:=Ow.rdSh av
   refine ca Y (fun _=>p132 (K:=[0,3,4]) (ax.sub (M:=[0,3,4]) O) (ay.sub (M:=[0,3,4]) O)) fun bi az Y Z=>?_
   have a0:=aw.n Z
   refine nl (cn Y (fun Y=>?_) fun Y=>?_)
   ·exact sr (Nb O (.ret (rt Y a0)))
   ·exact sk (rg (Lw.add O (mi O (nl ((agm) ⟨i,w64 (k+1),vI ao,az,O,(((x.j C).j E).j Z).w,O,Y⟩)))))
  ·refine Cw.exit ?_
   rw[an]at Y
   exact sr (Nb O (.ret (rt Y (b.trans d))))
theorem p83 {x0 a b x1 x2 r}(d:Rd W K [a,b] x0)(Y:Vm.zh6 x0 x1 x2=some r):Q1 83 [.agg [a,b].toArray,vI x1,vS x2] W [] fun W' v=>v=vB r:=
 (c83 (d.view _) Y).ad (fk 0) fun _ _ e=>e
theorem c82 {x0 x1 d a b x2 e r}(hB1:Bx W0 2 d [a,b])(h:Rd W0 [0] [a] x1.Commits)(i:Rd W0 [0] [b] x1.Heads)(hB2:Bx W0 3 e [vS x2])(Y:Vm.zla x0 x1 x2=some r):Q0 82 [vI x0,ptr (bx d),ptr (bx e)] W0 fun Wf v=>v=vB r/\Bx Wf 2 d [a,b]/\Bx Wf 3 e [vS x2]:=by
 unfold Vm.zla at Y
 refine zaT.of Tryz.func82 O O O O (sr (Nb O (sr (Lw.r O (R.lda (cs:=[a,b]) hB1.cells O O) (mi O (Lw.r O (R.ld (v:=vS x2) O O (hB2.cell0 O)) (ca Y (fun _=>p83 (Repo.rd (K:=[0]) x1.Commits x1.Heads h i)) fun z A Y f=>?_)))))))
 have k:=f.o
 have x:=hB1.up f
 have y:=hB2.up f
 refine Nb O ?_
 cases Y
 exact Cw.ret (zmk O (Res.mk k ⟨O,x,y⟩))
theorem p82 {x0 x1 a b d x2 f c0 c1 r}(hB1:Bx W c0 a [b,d])(h:Rd W K [b] x1.Commits)(i:Rd W K [d] x1.Heads)(hB2:Bx W c1 f [vS x2])(hJ:okJ K [c0,c1]=true)(Y:Vm.zla x0 x1 x2=some r):Q1 82 [vI x0,ptr (bx a),ptr (bx f)] W [c0,c1] fun W' v=>v=vB r/\Bx W' c0 a [b,d]/\Bx W' c1 f [vS x2]:=
 zaT.adJ (J:=[c0,c1]) (fun c=>bif Nat.beq c 0 then 0 else bif Nat.beq c 2 then c0 else bif Nat.beq c 3 then c1 else 0) (c82 (hB1.viewJ 0 hJ) (h.view _) (i.view _) (hB2.viewJ 1 hJ) Y) fun _ _ ⟨e,k,x⟩=>⟨e,Bx.backJ 0 k O,Bx.backJ 1 x O⟩
theorem c130 {x0 a r}(x:Ow W0 2 [] [a] x0)(Y:Vm.zej x0=some r):Q0 130 [a] W0 fun Wf v=>v = .tuple #[]/\Ow Wf 2 [] [a] r:=by
 unfold Vm.zej at Y
 refine zaT.of Tryz.func130 O O O O (sr (mv a O (Lw.ln x0 x.rd O (Lw.sub O (Gi O (Ni O (Cw.block ?_)))))))
 obtain⟨A,B,Y⟩:=zc4 Y
 refine Cw.loop 7 27 [2,3] (fun m l w=> ∃ d e h f,CW.w f=w/\Le [2] W0 f/\l=[vI d,vI e]/\Ow f 2 [] [a] h/\Vm.zey A m d e h=some r) _ ⟨0,w64 ((x0.length:Int)-1),x0,W0,O,Le.refl _ _,O,x,Y⟩ ?_
 rintro(_ |N) _ _ σ ⟨d,e,h,f,rfl,y,rfl,z,Y⟩
 ·cases Y
 unfold Vm.zey at Y
 have C:=y.s
 refine ssr (mi O (mi O (Lw.lt O (nl (cn Y (fun Y=>?_) fun Y=>?_)))))
 ·refine sk (Cw.seq (Cw.block (Cw.draw [] [(0,0),(1,0),(2,0),(3,0),(4,0),(5,0),(6,0),(7,1),(8,0),(9,0),(10,0),(11,1),(12,0),(13,3),(14,0),(15,3)] mixed (by kernel_rfl) fun P l10=>?_)))
  have b:=z.up l10
  refine Dv a O (Di O (Dv a O (Di O (Dv a O (Di O ?_)))))
  obtain⟨Q,i,Y⟩:=ob Y
  refine Mw.p O O (fun _=>R.ix (α:=Int) b.rd i O O O) (Mw.q O O (fun _ c=>R.ld O O (zaD (b.rd.at_ i).1 O (b.rd.at_ i).int c)) (Dv a O (Di O ?_)))
  obtain⟨S,k,Y⟩:=ob Y
  refine Mw.p O O (fun _=>R.ix (α:=Int) b.rd k O O O) (Mw.q O O (fun _ c=>R.ld O O (zaD (b.rd.at_ k).1 O (b.rd.at_ k).int c)) ?_)
  obtain⟨U,D,Y⟩:=ob Y
  refine Mw.p O O (fun _=>R.ix (α:=Int) b.rd D O O O) ?_
  obtain⟨V,E,Y⟩:=ob Y
  refine Mw.lu O (T.stS (K':=[]) b (rdI _) E O O O) ?_
  rintro _ _ ⟨W,rfl,F,G⟩
  obtain⟨X,H,Y⟩:=ob Y
  refine Mw.p O O (fun _=>R.ix (α:=Int) b.rd H O O O) ?_
  obtain⟨I,J,Y⟩:=ob Y
  refine Mw.lu O (T.stS (K':=[]) G (rdI _) J O O O) ?_
  rintro _ _ ⟨K,rfl,L,M⟩
  exact Mw.nil (rg (mi O (Lw.add O (mi O (Lw.sub O (Gi O (Ni O ((agm) ⟨w64 (d+1),w64 (e-1),I,K,O,(((y.j l10).j F).j L).w,O,M,Y⟩))))))))
 ·refine Cw.exit ?_
  rw[B]at Y
  cases Y
  show zvA _ _ _ .ret _ _
  exact zAP (Res.mk C ⟨O,z⟩)
theorem p130 {x0 a c0 r}(b:Ow W c0 [] [a] x0)(hJ:okJ K [c0]=true)(Y:Vm.zej x0=some r):Q1 130 [a] W [c0] fun W' v=>v = .tuple #[]/\Ow W' c0 [] [a] r:=
 zaT.adJ (J:=[c0]) (fun c=>bif Nat.beq c 0 then 0 else bif Nat.beq c 2 then c0 else 0) (c130 (b.viewJ 0 hJ) Y) fun _ _ ⟨e,d⟩=>⟨e,Ow.backJ 0 d O⟩
theorem c81_82 {x0 Z aa x1 x3 b h i x4 d r}(h0:Rd W0 [0] [Z,aa] x0)(hB3:Bx W0 2 b [h,i])(ay:Rd W0 [0] [h] x3.Commits)(az:Rd W0 [0] [i] x3.Heads)(hB4:Bx W0 3 d [vS x4])(a0:Gl 0 W0 [0])(Y:Vm.zes x0 x1 x3 x4=some r):Q0 81 [.agg [Z,aa].toArray,vI x1, .func (.func 82) #[] [ptr (bx b),ptr (bx d)].toArray] W0 fun Wf v=> ∃ u0,v=u0/\OwS Wf [31] [] [u0] r/\Bx Wf 2 b [h,i]/\Bx Wf 3 d [vS x4]:=by
 unfold Vm.zes at Y
 obtain⟨b5,b6,ae,af,ah⟩:=Repo.split h0
 simp only[List.cons.injEq,and_true,true_and]at ae
 obtain⟨rfl,rfl⟩:=ae
 refine zaT.of Tryz.func81 O O O O (sr (bo 4 O fun g1 W1 I b1=>?_))
 have a2:=I.o
 have b3:=hB3.up I
 have b4:=hB4.up I
 refine Nv (.slice none 0 0) O (ssr (la b1 (mi O (Lw.t O (T.bsS (α:=Int) (xs:=[x1]) 5 [] (W:=W1) [vI x1] (Each.cons ((rdI _)) Each.nil) O) ?_))))
 rintro v5 _ ⟨W5,rfl,x,o5⟩
 have y:=a2.n x
 refine ca Y (fun _=>p71 (K:=[0,5]) ((Repo.rd (K:=[0]) x0.Commits x0.Heads (af.ul y) (ah.ul y)).sub (M:=[0,5]) O) (o5.rd.sub (M:=[0,5]) O) ((a0.ul y).sub (M:=[0,5]) O)) fun cb cc Y z=>?_
 have A:=y.n z
 have aj:=(b3.up x).up z
 have ak:=(b4.up x).up z
 refine Lw.r O (R.not O) (nl (cn Y (fun Y=>?_) fun Y=>?_))
 ·refine sr (Nv (.slice none 0 0) O ?_)
  cases Y
  exact Cw.ret (zmk O (Res.mk A ⟨.slice none 0 0,O,(zp1 []).sub O O,aj,ak⟩))
 ·refine sk (sr (Nv (.slice none 0 0) O (ssr (la ((b1.up x).up z) (mi O (cr Y (fun _=>p108 (k0:=6) (Repo.rd (K:=[0]) x0.Commits x0.Heads (af.ul A) (ah.ul A))) ?_))))))
  rintro cd ce cf Y J ⟨_,rfl,a8⟩
  have a9:=A.n J
  refine cr Y (fun _=>p103 (K:=[6]) (k0:=7) a8.rd) ?_
  rintro am cg an Y L ⟨_,rfl,N⟩
  have ba:=a9.n L
  refine Lw.ln am N.rd O (mi O (nl (Cw.block ?_)))
  obtain⟨bb,bc,Y⟩:=zc4 Y
  refine Cw.loop 20 31 [7,9,20] (fun m l w=> ∃ B C a ao e,CW.w e=w/\Le [2,3,8] an e/\l=[a,ao,vI C]/\Ow e 8 [] [a] B/\Bx e 2 b [h,i]/\Bx e 3 d [vS x4]/\Vm.zbn x3 x4 am bb m B C=some r) _ ⟨([]:List Int),0, .slice none 0 0,undef,an,O,Le.refl _ _,O,owN 8 [],((aj.up J).up L),((ak.up J).up L),Y⟩ ?_
  rintro(_ |ch) _ _ σ ⟨B,C,a,ao,e,rfl,D,rfl,P,ap,aq,Y⟩
  ·cases Y
  unfold Vm.zbn at Y
  have Q:=ba.t D
  refine sr (Lw.lt O (nl (Cw.seq (cn Y (fun Y=>?_) fun Y=>?_))))
  ·refine sk ?_
   obtain⟨be,bg,Y⟩:=zc4 Y
   refine Cw.join 22 30 [7,9] (fun l w=> ∃ E F S f,CW.w f=w/\Le [2,3,8] e f/\l=[F,S]/\Ow f 8 [] [F] E/\Bx f 2 b [h,i]/\Bx f 3 d [vS x4]/\be E=some r) ?_ ?_
   ·rintro _ _ σ ⟨E,F,S,f,rfl,bh,rfl,bi,bj,bk,Y⟩
    rw[bg]at Y
    exact rg (Lw.add O (mi O (nl ((agm) ⟨E,w64 (C+1),F,S,f,O,(D.j bh).w,O,bi,bj,bk,Y⟩))))
   ·refine Cw.block (sr ?_)
    obtain⟨k,ar,Y⟩:=ob Y
    refine Lw.r O (R.ix (α:=Int) (N.up D).rd ar O O O) (Lw.r O (R.ld O O ((N.up D).rd.at_ ar).int) (Ni O (sr (mv (.func (.func 82) #[] [ptr (bx b),ptr (bx d)].toArray) O (mi O ?_)))))
    obtain⟨ci,bl,Y⟩:=ob Y
    refine Lw.t O (T.callV (vals:=[vI k]) (caps:=[ptr (bx b),ptr (bx d)]) O O (p82 (c0:=2) (c1:=3) (x1:=(Vm.Repo.mk x3.Commits x3.Heads)) (x2:=x4) ap (ay.ul Q) (az.ul Q) aq O bl)) ?_
    rintro _ _ ⟨bm,rfl,G,⟨rfl,au,av⟩⟩
    refine nl (cn Y (fun Y=>?_) fun Y=>?_)
    ·refine rg (mv a O (mi O (Lw.t O (T.bs 9 [vI k] (cs:=[vI k]) O O (bsv O)) ?_)))
     rintro _ _ ⟨cj,ck,rfl,rfl,H,bn⟩
     obtain⟨bp,bq,Y⟩:=ob Y
     refine Lw.t O (T.app1S (α:=Int) (K':=[]) ((P.up G).up H) bn (rdI _) O O bq) ?_
     rintro aw _ ⟨br,rfl,U,bu⟩
     exact Nv aw O ((ag) ⟨bp,aw,vI k,br,O,((G.j H).j U).w,O,bu,((au.up H).up U),((av.up H).up U),Y⟩)
    ·exact sk ((ag) ⟨B,a,vI k,bm,O,G.w,O,(P.up G),au,av,Y⟩)
  ·refine Cw.exit ?_
   rw[bc]at Y
   refine sr (mv a O (cr Y (fun _=>p130 (K:=[0]) (c0:=8) P O) ?_))
   rintro cl _ cm Y V ⟨rfl,bv⟩
   have bw:=Q.t V
   refine nl (sr (mv a O (Nv a O ?_)))
   obtain⟨co,bz,X,b0⟩:=bv.dyeO 31
   have b2:=bw.t X
   cases Y
   rw[<- bz]
   exact Cw.ret (zmk O (Res.mk b2 ⟨a,O,b0.s,((ap.up V).up X),((aq.up V).up X)⟩))
theorem p81_82 {x0 i k x1 x3 b d f x4 h k0 c0 c1 r}(x:Rd W K [i,k] x0)(hB3:Bx W c0 b [d,f])(y:Rd W K [d] x3.Commits)(z:Rd W K [f] x3.Heads)(hB4:Bx W c1 h [vS x4])(A:Gl 0 W K)(hJ:okJ K [c0,c1]=true)(Y:Vm.zes x0 x1 x3 x4=some r):Q1 81 [.agg [i,k].toArray,vI x1, .func (.func 82) #[] [ptr (bx b),ptr (bx h)].toArray] W [c0,c1] fun W' v=> ∃ a,v=a/\Ow W' k0 [] [a] r/\Bx W' c0 b [d,f]/\Bx W' c1 h [vS x4]:=
 zaT.adJ (J:=[c0,c1]) (fun c=>bif Nat.beq c 0 then 0 else bif Nat.beq c 2 then c0 else bif Nat.beq c 3 then c1 else bif Nat.beq c 31 then k0 else 0) (c81_82 (x.view _) (hB3.viewJ 0 hJ) (y.view _) (z.view _) (hB4.viewJ 1 hJ) (A.view _) Y) fun _ _ ⟨a,e,B,C,D⟩=>⟨a,e,B.one1.backN O,Bx.backJ 0 C O,Bx.backJ 1 D O⟩
theorem c25 {x0 d e x1 x2 r}(z:Rd W0 [0] [d,e] x0)(A:Gl 0 W0 [0])(Y:Vm.zld x0 x1 x2=some r):Q0 25 [.agg [d,e].toArray,vI x1,vS x2] W0 fun Wf v=> ∃ f,v=f/\OwS Wf LL [] [f] r:=by
 unfold Vm.zld at Y
 obtain⟨J,L,h,i,k⟩:=Repo.split z
 simp only[List.cons.injEq,and_true,true_and]at h
 obtain⟨rfl,rfl⟩:=h
 refine zaT.of Tryz.func25 O O O O (sr (bo 2 O fun B M C x=>?_))
 have D:=C.o
 refine Lw.t O (T.box 3 (v:=vS x2) (cs:=[vS x2]) O O) ?_
 rintro _ _ ⟨E,N,rfl,rfl,b,F⟩
 have a:=D.n b
 refine Nv (.slice none 0 0) O (sr (la (x.up b) (mi O (Lw.r O (R.mkF (vs:=[ptr (bx B),ptr (bx E)]) O) (cr Y (fun _=>p81_82 (k0:=4) (c0:=2) (c1:=3) (x3:=x0) (x4:=x2) (Repo.rd (K:=[0]) x0.Commits x0.Heads (i.ul a) (k.ul a)) (x.up b) (i.ul a) (k.ul a) F (A.ul a) O) ?_)))))
 rintro P y Q Y G ⟨_,rfl,H,S,U⟩
 have I:=a.t G
 refine Nv y O ?_
 cases Y
 exact Cw.ret (zmk O (Res.mk I ⟨y,O,H.s.sub O O⟩))
theorem p25 {x0 b d x1 x2 k0 r}(f:Rd W K [b,d] x0)(h:Gl 0 W K)(Y:Vm.zld x0 x1 x2=some r):Q1 25 [.agg [b,d].toArray,vI x1,vS x2] W [] fun W' v=> ∃ a,v=a/\Ow W' k0 [] [a] r:=
 (c25 (f.view _) (h.view _) Y).ad (fk k0) fun _ _ ⟨a,e,i⟩=>⟨a,e,i.back (zlS _)⟩
theorem c140 {x0 d x1 r}(C:Rd W0 [0] [d] x0)(Y:Vm.zjk x0 x1=some r):Q0 140 [d,vS x1] W0 fun Wf v=> ∃ H,v=H/\OwS (α:=List (Sh Vm.File)) Wf LL [0] [H] r:=by
 unfold Vm.zjk at Y
 refine zaT.of Tryz.func140 O O O O (sr (Nv (.slice none 0 0) O (sr (Lw.t O (T.lit0 (α:=File) 2 []) ?_))))
 rintro I _ ⟨W1,rfl,V,W⟩
 have X:=V.o
 refine Nv I O (ssr (Ni O (Cw.block ?_)))
 obtain⟨Z,aa,Y⟩:=zc4 Y
 obtain⟨J,ac,l9,o9⟩:=W.toSh
 have ah:=X.t l9
 rw[<- ac]
 refine Cw.loop 8 36 [5,6] (fun m l w=> ∃ (k:List Vm.File) (x:Int) (a:Value) (b:CW),b.w=w/\Le [2] J b/\l=[a,vI x]/\Ow (α:=List (Sh Vm.File)) b 2 [0] [a] k/\Vm.zg3 x0 x1 Z m k x=some r) _ ⟨([]:List File),0,I,J,O,Le.refl _ _,O,o9,Y⟩ ?_
 rintro(_ |a3) _ _ σ ⟨k,x,a,b,rfl,L,rfl,D,Y⟩
 ·cases Y
 unfold Vm.zg3 at Y
 have E:=ah.t L
 refine ssr ?_
 have e:=C.ul E
 refine mi O (mv d O (Lw.ln x0 e O (Lw.lt O (nl (cn Y (fun Y=>?_) fun Y=>?_)))))
 ·refine sk ?_
  obtain⟨ai,aj,Y⟩:=zc4 Y
  refine Cw.join 14 36 [5] (fun l w=> ∃ (y:List Vm.File) (z:Value) (f:CW),f.w=w/\Le [2] b f/\l=[z]/\Ow (α:=List (Sh Vm.File)) f 2 [0] [z] y/\ai y=some r) ?_ ?_
  ·rintro _ _ σ ⟨y,z,f,rfl,ak,rfl,am,Y⟩
   rw[aj]at Y
   exact rg (mi O (Lw.add O (Ni O ((agm) ⟨y,w64 (x+1),z,f,O,(L.j ak).w,O,am,Y⟩))))
  ·refine Cw.block ?_
   obtain⟨an,ao,Y⟩:=zc4 Y
   refine Cw.join 14 29 [29] (fun l w=> ∃ F A,CW.w A=w/\Le [] b A/\l=[vB F]/\an F=some r) ?_ ?_
   ·rintro _ _ σ ⟨F,A,rfl,h,rfl,Y⟩
    rw[ao]at Y
    have M:=E.n h
    refine cn Y (fun Y=>?_) fun Y=>?_
    ·refine rg (mv a O (mv d O (mi O ?_)))
     obtain⟨B,N,Y⟩:=ob Y
     refine Lw.r O (R.ix (α:=File) (C.ul M) N O O O) ?_
     obtain⟨x30,c31,_,r32⟩:=((C.ul M).at_ N).cells
     obtain⟨P,rfl,r34⟩:=File.split r32
     refine Lw.r O (R.lda c31 O O) (Lw.t O (T.bs 3 [.agg [vS B.Path,P].toArray] (cs:=[vS B.Path,P]) O O (bsA O)) ?_)
     rintro _ _ ⟨a4,a5,rfl,rfl,G,ap⟩
     have aq:=G.o
     obtain⟨ar,au,Y⟩:=ob Y
     refine Lw.t O (T.app1S (α:=Sh Vm.File) (K':=[0]) ((D.up h).up G) ap (File.rd (K:=[0]) B.Path B.Text (r34.ul aq)).sh1 O O au) ?_
     rintro Q _ ⟨av,rfl,aw,ax⟩
     exact Nv Q O ((ag) ⟨ar,Q,av,O,((h.j G).j aw).w,O,ax,Y⟩)
    ·exact sk ((ag) ⟨k,a,A,O,h.w,O,(D.up h),Y⟩)
   ·refine rg (mv d O (mi O ?_))
    obtain⟨a6,S,Y⟩:=ob Y
    refine Lw.r O (R.ix (α:=File) e S O O O) (Lw.fa O (Lw.r O (R.ld O O (File.at0 (e.at_ S)).str) (ms O (Lw.seq O (mb O (bs Y (fun i Y=>?_) fun i Y=>?_))))))
    ·exact psk 7 i O (Pb i O (nl ((ag) ⟨true,b,O,Le.refl _ _,O,Y⟩)))
    ·refine wak 7 i (ms O (mv d O (mi O ?_)))
     obtain⟨a7,U,Y⟩:=ob Y
     exact Lw.r O (R.ix (α:=File) e U O O O) (Lw.fa O (Lw.r O (R.ld O O (File.at0 (e.at_ U)).str) (ca Y (fun _=>p151) fun ay az Y a0=>Pb i O (nl ((ag) ⟨ay,az,O,a0,O,Y⟩)))))
 ·refine Cw.exit ?_
  rw[aa]at Y
  refine sr (mv a O (Nv a O ?_))
  cases Y
  exact Cw.ret (zmk O (Res.mk E ⟨a,O,D.s.sub O O⟩))
theorem p140 {x0 b x1 k0 r}(d:Rd W K [b] x0)(Y:Vm.zjk x0 x1=some r):Q1 140 [b,vS x1] W [] fun W' v=> ∃ a,v=a/\Ow (α:=List (Sh Vm.File)) W' k0 (0::K) [a] r:=
 (c140 (d.view _) Y).ad (fk k0) fun _ _ ⟨a,e,f⟩=>⟨a,e,f.backS (zlS _) O⟩
theorem c141 {x0 b x1 h r}(z:Rd W0 [0] [b] x0)(G:Rd W0 [0] [h] x1)(Y:Vm.zle x0 x1=some r):Q0 141 [b,h] W0 fun Wf v=>v=vB r:=by
 unfold Vm.zle at Y
 refine zaT.of Tryz.func141 O O O O (sr (Nb O (ssr (mv b O (Lw.ln x0 z O (mv h O (Lw.ln x1 G O (Lw.ne O (nl (cn Y (fun Y=>?_) fun Y=>?_))))))))))
 ·exact sr (Nb O (.ret (rt Y (Le.refl _ _))))
 ·refine sk (ssr (Ni O (Cw.block ?_)))
  obtain⟨M,N,Y⟩:=zc4 Y
  refine Cw.loop 11 41 [4,5] (fun m l w=> ∃ i d k,CW.w k=w/\Le [] W0 k/\l=[vB i,vI d]/\Vm.zhy x0 x1 M m i d=some r) _ ⟨false,0,W0,O,Le.refl _ _,O,Y⟩ ?_
  rintro(_ |X) _ _ σ ⟨i,d,k,rfl,H,rfl,Y⟩
  ·cases Y
  unfold Vm.zhy at Y
  have x:=H.o
  refine ssr (mi O (mv b O (Lw.ln x0 (z.ul x) O (Lw.lt O (nl (cn Y (fun Y=>?_) fun Y=>?_))))))
  ·refine sk (Cw.seq (Cw.block ?_))
   obtain⟨P,Q,Y⟩:=zc4 Y
   refine Cw.join 17 41 [41] (fun l w=> ∃ A y,CW.w y=w/\Le [] k y/\l=[vB A]/\P A=some r) ?_ ?_
   ·rintro _ _ σ ⟨A,y,rfl,I,rfl,Y⟩
    rw[Q]at Y
    have S:=x.n I
    refine cn Y (fun Y=>?_) fun Y=>?_
    ·exact sr (Nb O (.ret (rt Y S)))
    ·exact sk (rg (mi O (Lw.add O (Ni O ((agm) ⟨i,w64 (d+1),y,O,(H.j I).w,O,Y⟩)))))
   ·refine Cw.draw [] [(0,0),(1,0),(2,0),(3,0),(4,1),(5,0),(6,0),(7,0),(8,0),(9,1),(10,0),(11,0),(12,0),(13,0),(14,0),(15,0),(16,1),(17,0),(18,0),(19,0),(20,0),(21,1),(22,2),(23,0),(24,0)] mixed (by kernel_rfl) fun U B=>?_
    have J:=x.n B
    refine Dv b O (Di O ?_)
    obtain⟨Z,C,Y⟩:=ob Y
    have e:=z.ul J
    refine Mw.p O O (fun _=>R.ix (α:=File) e C O O O) (Df O (Mw.q O O (fun _ c=>R.ld O O (zaD (File.at0 (e.at_ C)).1 O (File.at0 (e.at_ C)).str c)) (Dv h O (Di O ?_))))
    obtain⟨aa,D,Y⟩:=ob Y
    have f:=G.ul J
    refine Mw.p O O (fun _=>R.ix (α:=File) f D O O O) (Df O (Mw.q O O (fun _ c=>R.ld O O (zaD (File.at0 (f.at_ D)).1 O (File.at0 (f.at_ D)).str c)) (Mw.p O O (fun _=>R.sne O O) (Db O (bs Y (fun a Y=>?_) fun a Y=>?_)))))
    ·exact dps 12 a O (Mw.p O O (fun _=>R.pk a O (v:=vB true) O) (Mw.nil ((ag) ⟨true,U,O,B,O,Y⟩)))
    ·refine Wp a O (fun _=>R.mv (v:=b) O) (Wp a O (fun _=>R.mv (v:=vI d) O) ?_)
     obtain⟨ac,E,Y⟩:=ob Y
     refine Wp a O (fun _=>R.ix (α:=File) e E O O O) (Wp a O (fun _=>R.fa O) ?_)
     obtain⟨ae,c27,r28⟩:=(File.at1 (e.at_ E)).cell O
     refine Wq a O (fun _ c=>R.ld O O (zaD (File.at1 (e.at_ E)).1 O c27 c)) (Wp a O (fun _=>R.mv (v:=h) O) (Wp a O (fun _=>R.mv (v:=vI d) O) ?_))
     obtain⟨af,F,Y⟩:=ob Y
     refine Wp a O (fun _=>R.ix (α:=File) f F O O O) (Wp a O (fun _=>R.fa O) ?_)
     obtain⟨ah,c32,r33⟩:=(File.at1 (f.at_ F)).cell O
     refine Wq a O (fun _ c=>R.ld O O (zaD (File.at1 (f.at_ F)).1 O c32 c)) ?_
     obtain⟨K,V,Y⟩:=ob Y
     refine Wt a O (T.call O (p158 r28 r33 V)) ?_
     rintro _ _ ⟨W,rfl,L,rfl⟩
     exact m0 L fun ai=>Wp a O (fun _=>R.not O) (Mw.p O O (fun _=>R.pk a O (v:=vB (!K)) O) (Mw.nil ((ag) ⟨(!K),W,O,(B.j L).w,O,Y⟩)))
  ·refine Cw.exit ?_
   rw[N]at Y
   exact sr (Nb O (.ret (rt Y x)))
theorem p141 {x0 a x1 b r}(d:Rd W K [a] x0)(f:Rd W K [b] x1)(Y:Vm.zle x0 x1=some r):Q1 141 [a,b] W [] fun W' v=>v=vB r:=
 (c141 (d.view _) (f.view _) Y).ad (fk 0) fun _ _ e=>e
theorem c110 {x0 S U x1 x2 r}(h0:Rd W0 [0] [S,U] x0)(Y:Vm.zko x0 x1 x2=some r):Q0 110 [.agg [S,U].toArray,vI x1,vS x2] W0 fun Wf v=>v=vB r:=by
 unfold Vm.zko at Y
 obtain⟨a3,a4,V,D,a5⟩:=Repo.split h0
 simp only[List.cons.injEq,and_true,true_and]at V
 obtain⟨rfl,rfl⟩:=V
 refine zaT.of Tryz.func110 O O O O (sr (bo 2 O fun g1 W1 l1 W=>?_))
 have e:=l1.o
 refine Nb O (sr (fl W O (mi O ?_)))
 obtain⟨E,X,Y⟩:=ob Y
 refine Lw.r O (R.ix (α:=Commit) (D.ul e) X O O O) ?_
 obtain⟨x6,c7,_,r8⟩:=((D.ul e).at_ X).cells
 obtain⟨v9,a9,rfl,r10,r12⟩:=Commit.split r8
 refine Lw.r O (R.lda c7 O O) (al 3 [.slice none 0 0,vS ([]:Str), .slice none 0 0] fun ba bb Z ak=>?_)
 have a:=Z.o
 refine sta ak (zaf r10.oc (zaf O (zaf r12.oc zaW))) fun bc aa F=>?_
 have b:=aa.s
 refine nl (sr (fl F O (ms O (cr Y (fun _=>p140 (k0:=4) (r12.ul (a.trans b))) ?_))))
 rintro h f y Y z ⟨_,rfl,am⟩
 have ac:Ow (α:=List (Sh Vm.File)) y 4 [0] [f] h:=am.sub O
 have d:=z.o
 refine Nv f O (ssr (fl (F.up z) O (Lw.ln E.Parents (r10.ul ((a.trans b).trans d)) O (Lw.eq O (nl (cn Y (fun Y=>?_) fun Y=>?_))))))
 ·refine sr ?_
  have an:Rd (α:=List Vm.File) y [4,0] [f] h:=Ow.rdSh ac
  exact mv f O (Lw.ln h an O (Lw.gt O (Nb O (.ret (rt Y (((e.trans a).trans b).trans d))))))
 ·refine sk (ssr (Ni O (Cw.block ?_)))
  obtain⟨ao,ap,Y⟩:=zc4 Y
  refine Cw.loop 26 46 [6,9] (fun m l w=> ∃ A B G,CW.w G=w/\Le [] y G/\l=[vB A,vI B]/\Vm.zg4 x0 x2 E h ao m A B=some r) _ ⟨false,0,y,O,Le.refl _ _,O,Y⟩ ?_
  rintro(_ |be) _ _ σ ⟨A,B,G,rfl,i,rfl,Y⟩
  ·cases Y
  unfold Vm.zg4 at Y
  have k:=i.o
  have ae:=(F.up z).up i
  refine ssr (mi O (fl ae O (Lw.ln E.Parents (r10.ul (((a.trans b).trans d).trans k)) O (Lw.lt O (nl (cn Y (fun Y=>?_) fun Y=>?_))))))
  ·refine sk (Cw.seq (Cw.block (Cw.seq (Cw.draw [] [(0,0),(1,1),(2,0),(3,1),(4,0),(5,0),(6,1),(7,0),(8,0),(9,1),(10,0),(12,0),(11,2),(13,2)] mixed (by kernel_rfl) fun bg x=>?_))))
   have H:=x.o
   refine Dfl (((((W.up Z).up aa).up z).up i).up x) O O O (Dfl (ae.up x) O O O (Di O ?_))
   obtain⟨bh,I,Y⟩:=ob Y
   have J:=r10.ul ((((a.trans b).trans d).trans k).trans H)
   refine Mw.p O O (fun _=>R.ix (α:=Int) J I O O O) (Mw.q O O (fun _ c=>R.ld O O (zaD (J.at_ I).1 O (J.at_ I).int c)) ?_)
   obtain⟨bi,L,Y⟩:=ob Y
   have N:=D.ul (((((e.trans a).trans b).trans d).trans k).trans H)
   refine Mw.p O O (fun _=>R.ix (α:=Commit) N L O O O) (Df O ?_)
   obtain⟨bj,c53,r54⟩:=(Commit.at2 (N.at_ L)).cell O
   refine Mw.q O O (fun _ c=>R.ld O O (zaD (Commit.at2 (N.at_ L)).1 O c53 c)) (Ds O (Dv f O ?_))
   obtain⟨af,aq,Y⟩:=ob Y
   refine Mw.t O O (T.call O (p140 (k0:=5) r54 aq)) ?_
   rintro ah _ ⟨P,rfl,C,⟨_,rfl,ar⟩⟩
   have au:Ow (α:=List (Sh Vm.File)) P 5 [0] [ah] af:=ar.sub O
   have av:=(((((e.trans a).trans b).trans d).trans k).trans H).n C
   refine m0 C fun aw=>?_
   have ax:Rd (α:=List Vm.File) P [5,0] [ah] af:=Ow.rdSh au
   have ay:Rd (α:=List Vm.File) P [4,0] [f] h:=Ow.rdSh (((ac.up i).up x).up C)
   obtain⟨bk,az,Y⟩:=ob Y
   refine Mw.t O O (T.call O (p141 (K:=[0,4,5]) (ax.sub (M:=[0,4,5]) O) (ay.sub (M:=[0,4,5]) O) az)) ?_
   rintro _ _ ⟨a0,rfl,Q,rfl⟩
   have a1:=av.n Q
   refine mc aw Q fun bl=>Mw.nil (cn Y (fun Y=>?_) fun Y=>?_)
   ·exact sr (Nb O (.ret (rt Y a1)))
   ·exact sk (rg (mi O (Lw.add O (Ni O ((agm) ⟨A,w64 (B+1),a0,O,(((i.j x).j C).j Q).w,O,Y⟩)))))
  ·refine Cw.exit ?_
   rw[ap]at Y
   exact sr (Nb O (.ret (rt Y ((((e.trans a).trans b).trans d).trans k))))
theorem p110 {x0 a b x1 x2 r}(d:Rd W K [a,b] x0)(Y:Vm.zko x0 x1 x2=some r):Q1 110 [.agg [a,b].toArray,vI x1,vS x2] W [] fun W' v=>v=vB r:=
 (c110 (d.view _) Y).ad (fk 0) fun _ _ e=>e
theorem c44 {x0 I J x1 x2 r}(h0:Rd W0 [0] [I,J] x0)(Y:Vm.zkp x0 x1 x2=some r):Q0 44 [.agg [I,J].toArray,vI x1,vS x2] W0 fun Wf v=> ∃ U,v=U/\OwS Wf LL [] [U] r:=by
 unfold Vm.zkp at Y
 obtain⟨bm,bn,V,k,L⟩:=Repo.split h0
 simp only[List.cons.injEq,and_true,true_and]at V
 obtain⟨rfl,rfl⟩:=V
 refine zaT.of Tryz.func44 O O O O (sr (bo 2 O fun g1 W1 l1 b1=>?_))
 have a2:=l1.o
 refine Nv (.slice none 0 0) O (sr (Lw.t O (T.lit0 (α:=Int) 3 []) ?_))
 rintro W _ ⟨W3,rfl,X,o3⟩
 have x:=a2.n X
 have y:=b1.up X
 refine Nv W O (Cw.seq ?_)
 obtain⟨K8,aw,Y⟩:=zc4 Y
 refine Cw.join 11 22 [22] (fun l w=> ∃ M N,CW.w N=w/\Le [] W3 N/\l=[vB M]/\K8 M=some r) ?_ ?_
 ·rintro _ _ σ ⟨M,N,rfl,z,rfl,Y⟩
  rw[aw]at Y
  have A:=x.n z
  refine cn Y (fun Y=>?_) fun Y=>?_
  ·refine sr (Nv (.slice none 0 0) O ?_)
   cases Y
   exact Cw.ret (zmk O (Res.mk A ⟨.slice none 0 0,O,(zp1 []).sub O O⟩))
  ·refine sk (sr (la (y.up z) (mi O (cr Y (fun _=>p109 (k0:=4) (Repo.rd (K:=[0]) x0.Commits x0.Heads (k.ul A) (L.ul A))) ?_))))
   rintro P B Z Y Q ⟨_,rfl,aa⟩
   have ax:=A.n Q
   refine Nv B O (ssr (mv B O (Lw.ln P aa.rd O (Lw.sub O (Ni O (Cw.block ?_))))))
   obtain⟨ay,az,Y⟩:=zc4 Y
   refine Cw.loop 29 46 [7,9] (fun m l w=> ∃ C D a d,CW.w d=w/\Le [3] Z d/\l=[a,vI D]/\Ow d 3 [] [a] C/\Vm.zhz x0 x2 P ay m C D=some r) _ ⟨([]:List Int),w64 ((P.length:Int)-1),W,Z,O,Le.refl _ _,O,((o3.up z).up Q),Y⟩ ?_
   rintro(_ |br) _ _ σ ⟨C,D,a,d,rfl,E,rfl,ac,Y⟩
   ·cases Y
   unfold Vm.zhz at Y
   have ae:=ax.t E
   refine ssr (mi O (Lw.ge O (nl (cn Y (fun Y=>?_) fun Y=>?_))))
   ·refine sk ?_
    obtain⟨a0,a1,Y⟩:=zc4 Y
    refine Cw.join 33 46 [7] (fun l w=> ∃ F G e,CW.w e=w/\Le [3] d e/\l=[G]/\Ow e 3 [] [G] F/\a0 F=some r) ?_ ?_
    ·rintro _ _ σ ⟨F,G,e,rfl,a3,rfl,a5,Y⟩
     rw[a1]at Y
     exact rg (mi O (Lw.sub O (Ni O ((agm) ⟨F,w64 (D-1),G,e,O,(E.j a3).w,O,a5,Y⟩))))
    ·refine Cw.block (Cw.seq (Cw.draw [] [(0,1),(1,0),(2,0),(3,0),(4,1),(5,0),(6,3)] mixed (by kernel_rfl) fun bu b=>?_))
     have af:=ae.n b
     have f:=(aa.up E).up b
     refine Mw.q O O (fun _ c=>R.lda (cs:=[I,J]) (((((y.up z).up Q).up E).up b).clcs O c) O O) (Dv B O (Di O ?_))
     obtain⟨bv,S,Y⟩:=ob Y
     refine Mw.p O O (fun _=>R.ix (α:=Int) f.rd S O O O) (Mw.q O O (fun _ c=>R.ld O O (zaD (f.rd.at_ S).1 O (f.rd.at_ S).int c)) (Ds O ?_))
     obtain⟨bw,a6,Y⟩:=ob Y
     refine Mw.l O O (T.call O (p110 (Repo.rd (K:=[0]) x0.Commits x0.Heads (k.ul af) (L.ul af)) a6)) ?_
     rintro _ _ ⟨a7,rfl,h,rfl⟩
     have ah:=(ac.up b).up h
     refine Mw.nil (cn Y (fun Y=>?_) fun Y=>?_)
     ·refine rg (mv a O (mv B O (mi O ?_)))
      obtain⟨ai,aj,Y⟩:=ob Y
      refine Lw.r O (R.ix (α:=Int) (f.up h).rd aj O O O) (Lw.r O (R.ld O O ((f.up h).rd.at_ aj).int) (Lw.t O (T.bs 5 [vI ai] (cs:=[vI ai]) O O (bsv O)) ?_))
      rintro _ _ ⟨bz,b0,rfl,rfl,ak,a8⟩
      obtain⟨ba,bb,Y⟩:=ob Y
      refine Lw.t O (T.app1S (α:=Int) (K':=[]) (ah.up ak) a8 (rdI _) O O bb) ?_
      rintro am _ ⟨bc,rfl,be,bg⟩
      exact Nv am O ((ag) ⟨ba,am,bc,O,(((b.j h).j ak).j be).w,O,bg,Y⟩)
     ·exact sk ((ag) ⟨C,a,a7,O,(b.j h).w,O,ah,Y⟩)
   ·refine Cw.exit ?_
    rw[az]at Y
    refine sr (mv a O (Nv a O ?_))
    cases Y
    exact Cw.ret (zmk O (Res.mk ae ⟨a,O,ac.s.sub O O⟩))
 ·refine rg (la y (ca Y (fun _=>p80 (Repo.rd (K:=[0]) x0.Commits x0.Heads (k.ul x) (L.ul x))) fun b2 bh Y H=>?_))
  have bi:=x.n H
  refine Lw.r O (R.not O) (mb O (bs Y (fun i Y=>?_) fun i Y=>?_))
  ·exact psk 7 i O (Pb i O (nl ((ag) ⟨true,bh,O,H,O,Y⟩)))
  ·exact wak 7 i (mi O (fl (y.up H) O (Lw.ln x0.Commits (k.ul bi) O (Lw.sub O (ca Y (fun _=>p67) fun bj bk Y bl=>Lw.r O (R.not O) (Pb i O (nl ((ag) ⟨(!bj),bk,O,(H.j bl).w,O,Y⟩))))))))
theorem p44 {x0 b d x1 x2 k0 r}(f:Rd W K [b,d] x0)(Y:Vm.zkp x0 x1 x2=some r):Q1 44 [.agg [b,d].toArray,vI x1,vS x2] W [] fun W' v=> ∃ a,v=a/\Ow W' k0 [] [a] r:=
 (c44 (f.view _) Y).ad (fk k0) fun _ _ ⟨a,e,h⟩=>⟨a,e,h.back (zlS _)⟩
theorem c45 {x0 d x1 r}(D:Rd W0 [0] [d] x0)(V:Gl 0 W0 [0])(Y:Vm.zkq x0 x1=some r):Q0 45 [d,vS x1] W0 fun Wf v=> ∃ H,v=H/\OwS (α:=List (Sh Vm.File)) Wf LL [0] [H] r:=by
 unfold Vm.zkq at Y
 refine zaT.of Tryz.func45 O O O O (sr (Nv (.slice none 0 0) O (sr (Lw.t O (T.lit0 (α:=File) 2 []) ?_))))
 rintro I _ ⟨W1,rfl,W,X⟩
 have Z:=W.o
 refine Nv I O (ssr (Ni O (Cw.block ?_)))
 obtain⟨K8,ac,Y⟩:=zc4 Y
 obtain⟨J,ae,l9,o9⟩:=X.toSh
 have ai:=Z.t l9
 rw[<- ae]
 refine Cw.loop 8 36 [5,6] (fun m l w=> ∃ (k:List Vm.File) (x:Int) (a:Value) (b:CW),b.w=w/\Le [2] J b/\l=[a,vI x]/\Ow (α:=List (Sh Vm.File)) b 2 [0] [a] k/\Vm.zhA x0 x1 K8 m k x=some r) _ ⟨([]:List File),0,I,J,O,Le.refl _ _,O,o9,Y⟩ ?_
 rintro(_ |a4) _ _ σ ⟨k,x,a,b,rfl,L,rfl,E,Y⟩
 ·cases Y
 unfold Vm.zhA at Y
 have y:=ai.t L
 refine ssr ?_
 have e:=D.ul y
 refine mi O (mv d O (Lw.ln x0 e O (Lw.lt O (nl (cn Y (fun Y=>?_) fun Y=>?_)))))
 ·refine sk ?_
  obtain⟨aj,ak,Y⟩:=zc4 Y
  refine Cw.join 14 36 [5] (fun l w=> ∃ (z:List Vm.File) (A:Value) (f:CW),f.w=w/\Le [2] b f/\l=[A]/\Ow (α:=List (Sh Vm.File)) f 2 [0] [A] z/\aj z=some r) ?_ ?_
  ·rintro _ _ σ ⟨z,A,f,rfl,am,rfl,an,Y⟩
   rw[ak]at Y
   exact rg (mi O (Lw.add O (Ni O ((agm) ⟨z,w64 (x+1),A,f,O,(L.j am).w,O,an,Y⟩))))
  ·refine Cw.block ?_
   obtain⟨ao,ap,Y⟩:=zc4 Y
   refine Cw.join 14 29 [29] (fun l w=> ∃ F B,CW.w B=w/\Le [] b B/\l=[vB F]/\ao F=some r) ?_ ?_
   ·rintro _ _ σ ⟨F,B,rfl,h,rfl,Y⟩
    rw[ap]at Y
    have M:=y.n h
    refine cn Y (fun Y=>?_) fun Y=>?_
    ·refine rg (mv a O (mv d O (mi O ?_)))
     obtain⟨C,N,Y⟩:=ob Y
     refine Lw.r O (R.ix (α:=File) (D.ul M) N O O O) ?_
     obtain⟨x30,c31,_,r32⟩:=((D.ul M).at_ N).cells
     obtain⟨P,rfl,r34⟩:=File.split r32
     refine Lw.r O (R.lda c31 O O) (Lw.t O (T.bs 3 [.agg [vS C.Path,P].toArray] (cs:=[vS C.Path,P]) O O (bsA O)) ?_)
     rintro _ _ ⟨a5,a6,rfl,rfl,G,aq⟩
     have ar:=G.o
     obtain⟨au,av,Y⟩:=ob Y
     refine Lw.t O (T.app1S (α:=Sh Vm.File) (K':=[0]) ((E.up h).up G) aq (File.rd (K:=[0]) C.Path C.Text (r34.ul ar)).sh1 O O av) ?_
     rintro Q _ ⟨aw,rfl,ax,ay⟩
     exact Nv Q O ((ag) ⟨au,Q,aw,O,((h.j G).j ax).w,O,ay,Y⟩)
    ·exact sk ((ag) ⟨k,a,B,O,h.w,O,(E.up h),Y⟩)
   ·refine rg (mv d O (mi O ?_))
    obtain⟨a7,S,Y⟩:=ob Y
    refine Lw.r O (R.ix (α:=File) e S O O O) (Lw.fa O (Lw.r O (R.ld O O (File.at0 (e.at_ S)).str) (ms O (Lw.seq O (mb O (bs Y (fun i Y=>?_) fun i Y=>?_))))))
    ·exact psk 7 i O (Pb i O (nl ((ag) ⟨true,b,O,Le.refl _ _,O,Y⟩)))
    ·refine wak 7 i (ms O (mv d O (mi O ?_)))
     obtain⟨a8,U,Y⟩:=ob Y
     exact Lw.r O (R.ix (α:=File) e U O O O) (Lw.fa O (Lw.r O (R.ld O O (File.at0 (e.at_ U)).str) (ca Y (fun _=>p111 (V.ul y)) fun az a0 Y a1=>Pb i O (nl ((ag) ⟨az,a0,O,a1,O,Y⟩)))))
 ·refine Cw.exit ?_
  rw[ac]at Y
  refine sr (mv a O (Nv a O ?_))
  cases Y
  exact Cw.ret (zmk O (Res.mk y ⟨a,O,E.s.sub O O⟩))
theorem p45 {x0 b x1 k0 r}(d:Rd W K [b] x0)(f:Gl 0 W K)(Y:Vm.zkq x0 x1=some r):Q1 45 [b,vS x1] W [] fun W' v=> ∃ a,v=a/\Ow (α:=List (Sh Vm.File)) W' k0 (0::K) [a] r:=
 (c45 (d.view _) (f.view _) Y).ad (fk k0) fun _ _ ⟨a,e,h⟩=>⟨a,e,h.backS (zlS _) O⟩
theorem c26 {x0 a x1 r}(x:Rd W0 [0] [a] x0)(Y:Vm.zmq x0 x1=some r):Q0 26 [a,vI x1] W0 fun Wf v=>v=vB r:=by
 unfold Vm.zmq at Y
 refine zaT.of Tryz.func26 O O O O (sr (Nb O (ssr (Ni O (Cw.block ?_)))))
 obtain⟨y,z,Y⟩:=zc4 Y
 refine Cw.loop 6 17 [4,5] (fun m l w=> ∃ b d e,CW.w e=w/\Le [] W0 e/\l=[vB b,vI d]/\Vm.zjq x0 x1 y m b d=some r) _ ⟨false,0,W0,O,Le.refl _ _,O,Y⟩ ?_
 rintro(_ |A) _ _ σ ⟨b,d,e,rfl,i,rfl,Y⟩
 ·cases Y
 unfold Vm.zjq at Y
 have f:=i.o
 refine ssr ?_
 have h:=x.ul f
 refine mi O (mv a O (Lw.ln x0 h O (Lw.lt O (nl (cn Y (fun Y=>?_) fun Y=>?_)))))
 ·refine sk (Cw.seq (Cw.block (sr (mv a O (mi O ?_)))))
  obtain⟨B,k,Y⟩:=ob Y
  refine Lw.r O (R.ix (α:=Int) h k O O O) (Lw.r O (R.ld O O (h.at_ k).int) (mi O (Lw.eq O (nl (cn Y (fun Y=>?_) fun Y=>?_)))))
  ·exact sr (Nb O (.ret (rt Y f)))
  ·exact sk (rg (mi O (Lw.add O (Ni O ((agm) ⟨b,w64 (d+1),e,O,i,O,Y⟩)))))
 ·refine Cw.exit ?_
  rw[z]at Y
  exact sr (Nb O (.ret (rt Y f)))
theorem p26 {x0 a x1 r}(b:Rd W K [a] x0)(Y:Vm.zmq x0 x1=some r):Q1 26 [a,vI x1] W [] fun W' v=>v=vB r:=
 (c26 (b.view _) Y).ad (fk 0) fun _ _ e=>e
end Go.Sx
