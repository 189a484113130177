/- Walks: each function answers as its model, printed by a program of ours. Conditions: the arguments read as they are given. -/
import Derived.Test.YtpijdodljeieaaaGreatDoorATs
import Derived.Test.YtpijdodljeieaaaGreatDoorAM13
import Derived.Test.YtpijdodljeieaaaGreatDoorAW10
import Derived.Test.YtpijdodljeieaaaGreatDoorAW11
import Derived.Test.YtpijdodljeieaaaGreatDoorAW15
import Derived.Test.YtpijdodljeieaaaGreatDoorAW6
import Derived.Test.YtpijdodljeieaaaGreatDoorAW8
import Derived.Test.YtpijdodljeieaaaGreatDoorAE
namespace Go.Sx
open Go Go.Proofs Go.Vm Rp
set_option linter.unusedVariables false
set_option linter.unusedSimpArgs false
variable {W W0:CW}{K:List Nat}
theorem c152 {x0 e x1 r}(k:Rd W0 [0] [vS x0.Path,e] x0)(Y:Vm.zl4 x0 x1=some r):Q0 152 [.agg [vS x0.Path,e].toArray,vS x1] W0 fun Wf v=>v=vB r:=by
 unfold Vm.zl4 at Y
 obtain⟨H,f,I⟩:=File.split k
 simp only[List.cons.injEq,and_true,true_and]at f
 obtain rfl:=f
 refine zaO.of Tryz.func152 O O O O (sr (bo 2 O fun J h x i=>?_))
 have y:=x.o
 refine Nb O ?_
 obtain⟨z,A,Y⟩:=zdC Y
 refine Cw.join 5 15 [4] (fun l w=> ∃ b d,CW.w d=w/\Le [] h d/\l=[vB b]/\z b=some r) ?_ ?_
 ·rintro _ _ σ ⟨b,d,rfl,B,rfl,Y⟩
  rw[A]at Y
  have C:=y.n B
  exact .ret (rt Y C)
 ·refine rg (fl i O (ms O (Lw.seq O (mb O (bs Y (fun a Y=>?_) fun a Y=>?_)))))
  ·exact psk 5 a O (Pb a O (Nb O ((ag) ⟨true,h,O,Le.refl _ _,O,Y⟩)))
  ·refine wak 5 a (fl i O (ms O ?_))
   obtain⟨K,D,Y⟩:=ob Y
   exact Lw.r O (R.sad D O O) (ca Y (fun _=>p142) fun E F Y G=>Pb a O (Nb O ((ag) ⟨E,F,O,G,O,Y⟩)))
theorem p152 {x0 a x1 r}(b:Rd W K [vS x0.Path,a] x0)(Y:Vm.zl4 x0 x1=some r):Q1 152 [.agg [vS x0.Path,a].toArray,vS x1] W [] fun W' v=>v=vB r:=
 (c152 (b.view _) Y).ad (fk 0) fun _ _ e=>e
theorem c131 {x0 A x1 r}(B:Rd W0 [0] [A] x0)(Y:Vm.zkY x0 x1=some r):Q0 131 [A,vS x1] W0 fun Wf v=> ∃ F,v=F/\OwS (α:=List (Sh Vm.File)) Wf LL [0] [F] r:=by
 unfold Vm.zkY at Y
 refine zaO.of Tryz.func131 O O O O (sr (Nv (.slice none 0 0) O (sr (Nv (.slice none 0 0) O (ssr (mv A O (Lw.ln x0 B O (mi O (nl (Cw.block ?_))))))))))
 obtain⟨U,V,Y⟩:=zdC Y
 refine Cw.loop 10 21 [5,7,10] (fun m l w=> ∃ (h:List Vm.File) (i:Int) (a G:Value) (d:CW),d.w=w/\Le [2,3] W0 d/\l=[a,G,vI i]/\Ow (α:=List (Sh Vm.File)) d 2 [0] [a] h/\Vm.zia x0 x1 U m h i=some r) _ ⟨([]:List File),0, .slice none 0 0,undef,W0,O,Le.refl _ _,O,zzD 2 [0],Y⟩ ?_
 rintro(_ |m8) _ _ σ ⟨h,i,a,G,d,rfl,H,rfl,I,Y⟩
 ·cases Y
 unfold Vm.zia at Y
 have C:=H.s
 refine sr (Lw.lt O (nl (Cw.seq (cn Y (fun Y=>?_) fun Y=>?_))))
 ·refine sk ?_
  obtain⟨W,X,Y⟩:=zdC Y
  refine Cw.join 12 20 [5,7] (fun l w=> ∃ (k:List Vm.File) (x D:Value) (e:CW),e.w=w/\Le [2,3] d e/\l=[x,D]/\Ow (α:=List (Sh Vm.File)) e 2 [0] [x] k/\W k=some r) ?_ ?_
  ·rintro _ _ σ ⟨k,x,D,e,rfl,Z,rfl,aa,Y⟩
   rw[X]at Y
   exact rg (Lw.add O (mi O (nl ((agm) ⟨k,w64 (i+1),x,D,e,O,(H.j Z).w,O,aa,Y⟩))))
  ·refine Cw.block (sr ?_)
   obtain⟨b,J,Y⟩:=ob Y
   refine Lw.r O (R.ix (α:=File) (B.ul C) J O O O) ?_
   obtain⟨x21,c22,_,r23⟩:=((B.ul C).at_ J).cells
   obtain⟨L,rfl,r25⟩:=File.split r23
   refine Lw.r O (R.lda c22 O O) (al 3 [vS ([]:Str), .slice none 0 0] fun M ar y ac=>?_)
   have ae:=y.o
   refine sta ac (zah O (zah r25.oc za4)) fun au z N=>?_
   have P:=ae.t z
   refine nl (sr (la N (ms O (ca Y (fun _=>p152 (File.rd (K:=[0]) b.Path b.Text (r25.ul P))) fun av af Y f=>?_))))
   have ah:=P.n f
   have Q:=((I.up y).up z).up f
   refine nl (cn Y (fun Y=>?_) fun Y=>?_)
   ·refine rg (mv a O (la (N.up f) (Lw.t O (T.bs 4 [.agg [vS b.Path,L].toArray] (cs:=[vS b.Path,L]) O O (bsA O)) ?_)))
    rintro _ _ ⟨aw,ax,rfl,rfl,E,ai⟩
    have aj:=ah.n E
    obtain⟨ak,am,Y⟩:=ob Y
    refine Lw.t O (T.app1S (α:=Sh Vm.File) (K':=[0]) (Q.up E) ai (File.rd (K:=[0]) b.Path b.Text (r25.ul aj)).sh1 O O am) ?_
    rintro S _ ⟨an,rfl,ao,ap⟩
    exact Nv S O ((ag) ⟨ak,S,ptr (bx M),an,O,((((y.j z).j f).j E).j ao).w,O,ap,Y⟩)
   ·exact sk ((ag) ⟨h,a,ptr (bx M),af,O,((y.j z).j f).w,O,Q,Y⟩)
 ·refine Cw.exit ?_
  rw[V]at Y
  refine sr (mv a O (Nv a O ?_))
  cases Y
  exact Cw.ret (zj5 O (Res.mk C ⟨a,O,I.s.sub O O⟩))
theorem p131 {x0 b x1 k0 r}(d:Rd W K [b] x0)(Y:Vm.zkY x0 x1=some r):Q1 131 [b,vS x1] W [] fun W' v=> ∃ a,v=a/\Ow (α:=List (Sh Vm.File)) W' k0 (0::K) [a] r:=
 (c131 (d.view _) Y).ad (fk k0) fun _ _ ⟨a,e,f⟩=>⟨a,e,f.backS (zkx _) O⟩
theorem c155 {x0 b x1 f r}(d:Rd W0 [0] [b] x0)(h:Rd W0 [0] [f] x1)(Y:Vm.zdO x0 x1=some r):Q0 155 [b,f] W0 fun Wf v=>v=vB r:=by
 unfold Vm.zdO at Y
 refine zaO.of Tryz.func155 O O O O (sr (Nb O (ssr (mv b O (Lw.ln x0 d O (mv f O (Lw.ln x1 h O (Lw.ne O (nl (cn Y (fun Y=>?_) fun Y=>?_))))))))))
 ·exact sr (Nb O (.ret (rt Y (Le.refl _ _))))
 ·refine sk (ssr (mv b O (Lw.ln x0 d O (mi O (nl (Cw.block ?_))))))
  obtain⟨C,D,Y⟩:=zdC Y
  refine Cw.loop 13 25 [4,5,13] (fun m l w=> ∃ i e z k,CW.w k=w/\Le [] W0 k/\l=[vB i,z,vI e]/\Vm.zca x0 x1 C m i e=some r) _ ⟨false,0,undef,W0,O,Le.refl _ _,O,Y⟩ ?_
  rintro(_ |F) _ _ σ ⟨i,e,z,k,rfl,A,rfl,Y⟩
  ·cases Y
  unfold Vm.zca at Y
  have B:=A.o
  refine sr (Lw.lt O (nl (Cw.seq (cn Y (fun Y=>?_) fun Y=>?_))))
  ·refine sk (Cw.seq (Cw.block (sr (mi O (Ni O (Cw.seq (Cw.draw [] [(0,0),(1,0),(2,0),(3,1),(4,0),(5,0),(6,0),(7,1),(8,0)] mixed (by kernel_rfl) fun E l10=>?_)))))))
   have a:=B.n l10
   refine Dv b O (Di O ?_)
   obtain⟨G,x,Y⟩:=ob Y
   refine Mw.p O O (fun _=>R.ix (α:=Str) (d.ul a) x O O O) (Mw.q O O (fun _ c=>R.ld O O (zaR ((d.ul a).at_ x).1 O ((d.ul a).at_ x).str c)) (Dv f O (Di O ?_)))
   obtain⟨H,y,Y⟩:=ob Y
   refine Mw.p O O (fun _=>R.ix (α:=Str) (h.ul a) y O O O) (Mw.q O O (fun _ c=>R.ld O O (zaR ((h.ul a).at_ y).1 O ((h.ul a).at_ y).str c)) (Mw.p O O (fun _=>R.sne O O) (Mw.nil (cn Y (fun Y=>?_) fun Y=>?_))))
   ·exact sr (Nb O (.ret (rt Y a)))
   ·exact sk (rg (Lw.add O (mi O (nl ((agm) ⟨i,w64 (e+1),vI e,E,O,(A.j l10).w,O,Y⟩)))))
  ·refine Cw.exit ?_
   rw[D]at Y
   exact sr (Nb O (.ret (rt Y B)))
theorem p155 {x0 a x1 b r}(d:Rd W K [a] x0)(f:Rd W K [b] x1)(Y:Vm.zdO x0 x1=some r):Q1 155 [a,b] W [] fun W' v=>v=vB r:=
 (c155 (d.view _) (f.view _) Y).ad (fk 0) fun _ _ e=>e
theorem c154 {x0 h x1 i r}(B:Rd W0 [0] [vS x0.Path,h] x0)(C:Rd W0 [0] [vS x1.Path,i] x1)(Y:Vm.zjd x0 x1=some r):Q0 154 [.agg [vS x0.Path,h].toArray, .agg [vS x1.Path,i].toArray] W0 fun Wf v=>v=vB r:=by
 unfold Vm.zjd at Y
 obtain⟨P,k,D⟩:=File.split B
 simp only[List.cons.injEq,and_true,true_and]at k
 obtain rfl:=k
 obtain⟨Q,x,E⟩:=File.split C
 simp only[List.cons.injEq,and_true,true_and]at x
 obtain rfl:=x
 refine zaO.of Tryz.func154 O O O O (sr (bo 2 O fun R S F y=>?_))
 have G:=F.o
 refine bo 3 O fun T z b A=>?_
 have d:=G.n b
 refine Nb O ?_
 obtain⟨H,I,Y⟩:=zdC Y
 refine Cw.join 5 16 [4] (fun l w=> ∃ e f,CW.w f=w/\Le [] z f/\l=[vB e]/\H e=some r) ?_ ?_
 ·rintro _ _ σ ⟨e,f,rfl,J,rfl,Y⟩
  rw[I]at Y
  have K:=d.n J
  exact .ret (rt Y K)
 ·refine rg (fl (y.up b) O (fl A O (Lw.seq O (mb O (bs Y (fun a Y=>?_) fun a Y=>?_)))))
  ·exact wak 5 a (fl (y.up b) O (fl A O (ca Y (fun _=>p155 (D.ul d) (E.ul d)) fun L M Y N=>Pb a O (Nb O ((ag) ⟨L,M,O,N,O,Y⟩)))))
  ·exact psk 5 a O (Pb a O (Nb O ((ag) ⟨false,z,O,Le.refl _ _,O,Y⟩)))
theorem p154 {x0 a x1 b r}(d:Rd W K [vS x0.Path,a] x0)(f:Rd W K [vS x1.Path,b] x1)(Y:Vm.zjd x0 x1=some r):Q1 154 [.agg [vS x0.Path,a].toArray, .agg [vS x1.Path,b].toArray] W [] fun W' v=>v=vB r:=
 (c154 (d.view _) (f.view _) Y).ad (fk 0) fun _ _ e=>e
theorem c153_154 {x0 d x1 e r}(f:Rd W0 [0] [d] x0)(E:Rd W0 [0] [e] x1)(Y:Vm.zaH x0 x1=some r):Q0 153 [d,e, .func (.func 154) #[] [].toArray] W0 fun Wf v=>v=vB r:=by
 unfold Vm.zaH at Y
 refine zaO.of Tryz.func153 O O O O (sr (Nb O (ssr (mv d O (Lw.ln x0 f O (mv e O (Lw.ln x1 E O (Lw.ne O (nl (cn Y (fun Y=>?_) fun Y=>?_))))))))))
 ·exact sr (Nb O (.ret (rt Y (Le.refl _ _))))
 ·refine sk (ssr (mv d O (Lw.ln x0 f O (mi O (nl (Cw.block ?_))))))
  obtain⟨S,U,Y⟩:=zdC Y
  refine Cw.loop 17 31 [6,7,8,9,17] (fun m l w=> ∃ h a F G H i,CW.w i=w/\Le [2,3] W0 i/\l=[vB h,F,G,H,vI a]/\Vm.zak x0 x1 S m h a=some r) _ ⟨false,0,undef,undef,undef,W0,O,Le.refl _ _,O,Y⟩ ?_
  rintro(_ |m9) _ _ σ ⟨h,a,F,G,H,i,rfl,I,rfl,Y⟩
  ·cases Y
  unfold Vm.zak at Y
  have b:=I.s
  refine sr (Lw.lt O (nl (Cw.seq (cn Y (fun Y=>?_) fun Y=>?_))))
  ·refine sk (Cw.seq (Cw.block (sr (mi O ?_))))
   obtain⟨k,J,Y⟩:=ob Y
   refine Lw.r O (R.ix (α:=File) (f.ul b) J O O O) ?_
   obtain⟨x15,c16,_,r17⟩:=((f.ul b).at_ J).cells
   obtain⟨V,rfl,r19⟩:=File.split r17
   refine Lw.r O (R.lda c16 O O) (al 2 [vS ([]:Str), .slice none 0 0] fun W am L X=>?_)
   have x:=L.o
   refine Gi O (sta X (zah O (zah r19.oc za4)) fun an M Z=>?_)
   have y:=M.s
   refine nl (sr (mv e O (mi O ?_)))
   obtain⟨z,N,Y⟩:=ob Y
   have P:=E.ul ((b.trans x).trans y)
   refine Lw.r O (R.ix (α:=File) P N O O O) ?_
   obtain⟨x27,c28,_,r29⟩:=(P.at_ N).cells
   obtain⟨aa,rfl,r31⟩:=File.split r29
   refine Lw.r O (R.lda c28 O O) (al 3 [vS ([]:Str), .slice none 0 0] fun ac ao A ae=>?_)
   have B:=A.o
   refine sta ae (zah O (zah r31.oc za4)) fun ap C af=>?_
   have D:=C.s
   refine nl (sr (mv (.func (.func 154) #[] [].toArray) O (la ((Z.up A).up C) (la af ?_))))
   obtain⟨aq,ah,Y⟩:=ob Y
   refine Lw.t O (T.callV (vals:=[.agg [vS k.Path,V].toArray, .agg [vS z.Path,aa].toArray]) (caps:=[]) O O (p154 (File.rd (K:=[0]) k.Path k.Text (r19.ul (((x.trans y).trans B).trans D))) (File.rd (K:=[0]) z.Path z.Text (r31.ul (B.trans D))) ah)) ?_
   rintro _ _ ⟨ai,rfl,Q,rfl⟩
   have aj:=((((b.trans x).trans y).trans B).trans D).n Q
   refine Lw.r O (R.not O) (nl (cn Y (fun Y=>?_) fun Y=>?_))
   ·exact sr (Nb O (.ret (rt Y aj)))
   ·exact sk (rg (Lw.add O (mi O (nl ((agm) ⟨h,w64 (a+1),vI a,ptr (bx W),ptr (bx ac),ai,O,(((((I.j L).j M).j A).j C).j Q).w,O,Y⟩)))))
  ·refine Cw.exit ?_
   rw[U]at Y
   exact sr (Nb O (.ret (rt Y b)))
theorem p153_154 {x0 a x1 b r}(d:Rd W K [a] x0)(f:Rd W K [b] x1)(Y:Vm.zaH x0 x1=some r):Q1 153 [a,b, .func (.func 154) #[] [].toArray] W [] fun W' v=>v=vB r:=
 (c153_154 (d.view _) (f.view _) Y).ad (fk 0) fun _ _ e=>e
theorem c132 {x0 a x1 b r}(d:Rd W0 [0] [a] x0)(e:Rd W0 [0] [b] x1)(Y:Vm.zjn x0 x1=some r):Q0 132 [a,b] W0 fun Wf v=>v=vB r:=by
 unfold Vm.zjn at Y
 refine zaO.of Tryz.func132 O O O O (sr (Nb O (sr (mv a O (mv b O (ca Y (fun _=>p153_154 d e) fun i k Y f=>?_))))))
 have h:=f.o
 exact Nb O (.ret (rt Y h))
theorem p132 {x0 a x1 b r}(d:Rd W K [a] x0)(f:Rd W K [b] x1)(Y:Vm.zjn x0 x1=some r):Q1 132 [a,b] W [] fun W' v=>v=vB r:=
 (c132 (d.view _) (f.view _) Y).ad (fk 0) fun _ _ e=>e
theorem c83 {x0 F G x1 x2 r}(h0:Rd W0 [0] [F,G] x0)(Y:Vm.zhl x0 x1 x2=some r):Q0 83 [.agg [F,G].toArray,vI x1,vS x2] W0 fun Wf v=>v=vB r:=by
 unfold Vm.zhl at Y
 obtain⟨a1,a3,H,y,I⟩:=Repo.split h0
 simp only[List.cons.injEq,and_true,true_and]at H
 obtain⟨rfl,rfl⟩:=H
 refine zaO.of Tryz.func83 O O O O (sr (bo 2 O fun g1 W1 l1 J=>?_))
 have z:=l1.o
 refine Nb O (sr (la J (mi O (cr Y (fun _=>p100 (Repo.rd (K:=[0]) x0.Commits x0.Heads (y.ul z) (I.ul z))) ?_))))
 rintro z5 a7 W7 Y L ⟨_,rfl,ae⟩
 have s8:=ae.sub (M:=[0]) O
 have a9:=z.n L
 refine ms O (cr Y (fun _=>p131 (k0:=3) s8) ?_)
 rintro e a f Y N ⟨_,rfl,ai⟩
 have P:Ow (α:=List (Sh Vm.File)) f 3 [0] [a] e:=ai.sub O
 have b:=a9.n N
 have A:=(J.up L).up N
 refine Nv a O (ssr (fl A O (mi O ?_)))
 obtain⟨aj,Q,Y⟩:=ob Y
 have h:=y.ul b
 refine Lw.r O (R.ix (α:=Commit) h Q O O O) (Lw.fa O ?_)
 obtain⟨ba,c21,r22⟩:=(Commit.at0 (h.at_ Q)).cell O
 refine Lw.r O (R.ld O O c21) (Lw.ln aj.Parents r22 O (Lw.eq O (nl (cn Y (fun Y=>?_) fun Y=>?_))))
 ·refine sr ?_
  have ak:Rd (α:=List Vm.File) f [3,0] [a] e:=Ow.rdSh P
  exact mv a O (Lw.ln e ak O (Lw.gt O (Nb O (.ret (rt Y b)))))
 ·refine sk (ssr (fl A O (mi O ?_)))
  obtain⟨S,T,Y⟩:=ob Y
  refine Lw.r O (R.ix (α:=Commit) h T O O O) (Lw.fa O ?_)
  obtain⟨bb,c28,r29⟩:=(Commit.at0 (h.at_ T)).cell O
  refine Lw.r O (R.ld O O c28) (Lw.ln S.Parents r29 O (mi O (nl (Cw.block ?_))))
  obtain⟨am,an,Y⟩:=zdC Y
  refine Cw.loop 33 44 [6,9,33] (fun m l w=> ∃ i k U B,CW.w B=w/\Le [] f B/\l=[vB i,U,vI k]/\Vm.zel x0 x2 e S am m i k=some r) _ ⟨false,0,undef,f,O,Le.refl _ _,O,Y⟩ ?_
  rintro(_ |bc) _ _ σ ⟨i,k,U,B,rfl,x,rfl,Y⟩
  ·cases Y
  unfold Vm.zel at Y
  have d:=x.o
  refine sr (Lw.lt O (nl (Cw.seq (cn Y (fun Y=>?_) fun Y=>?_))))
  ·refine sk (Cw.seq (Cw.block (sr ?_)))
   obtain⟨ao,V,Y⟩:=ob Y
   refine Lw.r O (R.ix (α:=Int) (r29.ul d) V O O O) (Lw.r O (R.ld O O ((r29.ul d).at_ V).int) (Ni O (sr (mv a O (la (A.up x) (mi O (cr Y (fun _=>p100 (Repo.rd (K:=[0]) x0.Commits x0.Heads (y.ul (b.trans d)) (I.ul (b.trans d)))) ?_)))))))
   rintro be bg bh Y C ⟨_,rfl,ap⟩
   have aq:=ap.sub (M:=[0]) O
   have ar:=(b.trans d).n C
   refine ms O (cr Y (fun _=>p131 (k0:=4) aq) ?_)
   rintro W X D Y E ⟨_,rfl,au⟩
   have av:Ow (α:=List (Sh Vm.File)) D 4 [0] [X] W:=au.sub O
   have aw:=ar.n E
   have ax:Rd (α:=List Vm.File) D [3,0] [a] e:=Ow.rdSh (((P.up x).up C).up E)
   have ay:Rd (α:=List Vm.File) D [4,0] [X] W:=Ow.rdSh av
   refine ca Y (fun _=>p132 (K:=[0,3,4]) (ax.sub (M:=[0,3,4]) O) (ay.sub (M:=[0,3,4]) O)) fun bi az Y Z=>?_
   have a0:=aw.n Z
   refine nl (cn Y (fun Y=>?_) fun Y=>?_)
   ·exact sr (Nb O (.ret (rt Y a0)))
   ·exact sk (rg (Lw.add O (mi O (nl ((agm) ⟨i,w64 (k+1),vI ao,az,O,(((x.j C).j E).j Z).w,O,Y⟩)))))
  ·refine Cw.exit ?_
   rw[an]at Y
   exact sr (Nb O (.ret (rt Y (b.trans d))))
theorem p83 {x0 a b x1 x2 r}(d:Rd W K [a,b] x0)(Y:Vm.zhl x0 x1 x2=some r):Q1 83 [.agg [a,b].toArray,vI x1,vS x2] W [] fun W' v=>v=vB r:=
 (c83 (d.view _) Y).ad (fk 0) fun _ _ e=>e
theorem c82 {x0 x1 d a b x2 e r}(hB1:Bx W0 2 d [a,b])(h:Rd W0 [0] [a] x1.Commits)(i:Rd W0 [0] [b] x1.Heads)(hB2:Bx W0 3 e [vS x2])(Y:Vm.zj0 x0 x1 x2=some r):Q0 82 [vI x0,ptr (bx d),ptr (bx e)] W0 fun Wf v=>v=vB r/\Bx Wf 2 d [a,b]/\Bx Wf 3 e [vS x2]:=by
 unfold Vm.zj0 at Y
 refine zaO.of Tryz.func82 O O O O (sr (Nb O (sr (Lw.r O (R.lda (cs:=[a,b]) hB1.cells O O) (mi O (Lw.r O (R.ld (v:=vS x2) O O (hB2.cell0 O)) (ca Y (fun _=>p83 (Repo.rd (K:=[0]) x1.Commits x1.Heads h i)) fun z A Y f=>?_)))))))
 have k:=f.o
 have x:=hB1.up f
 have y:=hB2.up f
 refine Nb O ?_
 cases Y
 exact Cw.ret (zj5 O (Res.mk k ⟨O,x,y⟩))
theorem p82 {x0 x1 a b d x2 f c0 c1 r}(hB1:Bx W c0 a [b,d])(h:Rd W K [b] x1.Commits)(i:Rd W K [d] x1.Heads)(hB2:Bx W c1 f [vS x2])(hJ:okJ K [c0,c1]=true)(Y:Vm.zj0 x0 x1 x2=some r):Q1 82 [vI x0,ptr (bx a),ptr (bx f)] W [c0,c1] fun W' v=>v=vB r/\Bx W' c0 a [b,d]/\Bx W' c1 f [vS x2]:=
 zaO.adJ (J:=[c0,c1]) (fun c=>bif Nat.beq c 0 then 0 else bif Nat.beq c 2 then c0 else bif Nat.beq c 3 then c1 else 0) (c82 (hB1.viewJ 0 hJ) (h.view _) (i.view _) (hB2.viewJ 1 hJ) Y) fun _ _ ⟨e,k,x⟩=>⟨e,Bx.backJ 0 k O,Bx.backJ 1 x O⟩
theorem c108 {x0 H I x1 r}(h0:Rd W0 [0] [H,I] x0)(Y:Vm.zgl x0 x1=some r):Q0 108 [.agg [H,I].toArray,vI x1] W0 fun Wf v=> ∃ J,v=J/\OwS Wf LL [] [J] r:=by
 unfold Vm.zgl at Y
 obtain⟨a3,a4,K,A,a5⟩:=Repo.split h0
 simp only[List.cons.injEq,and_true,true_and]at K
 obtain⟨rfl,rfl⟩:=K
 refine zaO.of Tryz.func108 O O O O (sr (bo 2 O fun g1 W1 l1 L=>?_))
 have M:=l1.o
 refine Nv (.slice none 0 0) O (sr (fl L O (Lw.ln x0.Commits (A.ul M) O ?_)))
 obtain⟨q4,e5,Y⟩:=ob Y
 refine Lw.t O (T.mk (α:=Bool) 3 [] (n:=(x0.Commits.length:Int)) O O e5) ?_
 rintro a _ ⟨W6,rfl,N,P⟩
 have a7:=M.n N
 refine Nv a O (sr (mv a O (mi O ?_)))
 obtain⟨u9,ai,Y⟩:=ob Y
 refine Lw.r O (R.ix (α:=Bool) P.rd ai O O O) ?_
 obtain⟨aj,ak,Y⟩:=ob Y
 refine Lw.u (T.stS (K':=[]) P (rdB _) ak O O O) ?_
 rintro _ _ ⟨Q,rfl,S,am⟩
 have an:=a7.t S
 refine nl (ssr (mi O (Ni O (Cw.block ?_))))
 obtain⟨ao,ap,Y⟩:=zdC Y
 refine Cw.loop 17 39 [6,8] (fun m l w=> ∃ i d k b,CW.w b=w/\Le [3] Q b/\l=[vI i,k]/\Ow b 3 [] [a] d/\Vm.zcN x0 ao m i d=some r) _ ⟨x1,aj,undef,Q,O,Le.refl _ _,O,am,Y⟩ ?_
 rintro(_ |bc) _ _ σ ⟨i,d,k,b,rfl,B,rfl,e,Y⟩
 ·cases Y
 unfold Vm.zcN at Y
 have C:=an.t B
 refine ssr (mi O (Lw.ge O (nl (cn Y (fun Y=>?_) fun Y=>?_))))
 ·refine sk ?_
  obtain⟨U,aq,Y⟩:=zdC Y
  refine Cw.join 21 39 [8] (fun l w=> ∃ x D f,CW.w f=w/\Le [3] b f/\l=[D]/\Ow f 3 [] [a] x/\U x=some r) ?_ ?_
  ·rintro _ _ σ ⟨x,D,f,rfl,ar,rfl,au,Y⟩
   rw[aq]at Y
   exact rg (mi O (Lw.sub O (Ni O ((agm) ⟨w64 (i-1),x,D,f,O,(B.j ar).w,O,au,Y⟩))))
  ·refine Cw.block (sr (mv a O (mi O ?_)))
   obtain⟨be,V,Y⟩:=ob Y
   refine Lw.r O (R.ix (α:=Bool) e.rd V O O O) (Lw.r O (R.ld O O (e.rd.at_ V).bool) (nl (cn Y (fun Y=>?_) fun Y=>?_)))
   ·refine sr (fl (((L.up N).up S).up B) O (mi O ?_))
    obtain⟨W,X,Y⟩:=ob Y
    refine Lw.r O (R.ix (α:=Commit) (A.ul C) X O O O) (Lw.fa O ?_)
    obtain⟨bg,c40,r41⟩:=(Commit.at0 ((A.ul C).at_ X)).cell O
    refine Lw.r O (R.ld O O c40) (Lw.ln W.Parents r41 O (mi O (nl (Cw.block (Cw.loop 32 39 [8,32] (fun m l w=> ∃ y z E h,CW.w h=w/\Le [3] b h/\l=[E,vI y]/\Ow h 3 [] [a] z/\Vm.zdL U W m y z=some r) _ ⟨0,d,k,b,O,Le.refl _ _,O,e,Y⟩ ?_)))))
    rintro(_ |bh) _ _ σ ⟨y,z,E,h,rfl,F,rfl,G,Y⟩
    ·cases Y
    unfold Vm.zdL at Y
    have Z:=F.s
    refine sr (Lw.lt O (nl (Cw.seq (cn Y (fun Y=>?_) fun Y=>?_))))
    ·refine sk (Cw.seq (Cw.block (sr ?_)))
     obtain⟨av,aa,Y⟩:=ob Y
     refine Lw.r O (R.ix (α:=Int) (r41.ul Z) aa O O O) (Lw.r O (R.ld O O ((r41.ul Z).at_ aa).int) (Ni O (rg (mv a O (mi O ?_)))))
     obtain⟨bi,aw,Y⟩:=ob Y
     refine Lw.r O (R.ix (α:=Bool) G.rd aw O O O) ?_
     obtain⟨ax,ay,Y⟩:=ob Y
     refine Lw.u (T.stS (K':=[]) G (rdB _) ay O O O) ?_
     rintro _ _ ⟨az,rfl,a0,a1⟩
     exact nl (rg (Lw.add O (mi O (nl ((agm) ⟨w64 (y+1),ax,vI av,az,O,(F.j a0).w,O,a1,Y⟩)))))
    ·exact Cw.exit ((ag) ⟨z,E,h,O,F,O,G,Y⟩)
   ·exact sk ((ag) ⟨d,k,b,O,Le.refl _ _,O,e,Y⟩)
 ·refine Cw.exit ?_
  rw[ap]at Y
  refine sr (mv a O (Nv a O ?_))
  cases Y
  exact Cw.ret (zj5 O (Res.mk C ⟨a,O,e.s.sub O O⟩))
theorem p108 {x0 b d x1 k0 r}(f:Rd W K [b,d] x0)(Y:Vm.zgl x0 x1=some r):Q1 108 [.agg [b,d].toArray,vI x1] W [] fun W' v=> ∃ a,v=a/\Ow W' k0 [] [a] r:=
 (c108 (f.view _) Y).ad (fk k0) fun _ _ ⟨a,e,h⟩=>⟨a,e,h.back (zkx _)⟩
theorem c103 {x0 k r}(x:Rd W0 [0] [k] x0)(Y:Vm.zkI x0=some r):Q0 103 [k] W0 fun Wf v=> ∃ C,v=C/\OwS Wf LL [] [C] r:=by
 unfold Vm.zkI at Y
 refine zaO.of Tryz.func103 O O O O (sr (Nv (.slice none 0 0) O (sr (Nv (.slice none 0 0) O (ssr (mv k O (Lw.ln x0 x O (mi O (nl (Cw.block ?_))))))))))
 obtain⟨K,L,Y⟩:=zdC Y
 refine Cw.loop 8 18 [3,4,5,8] (fun m l w=> ∃ f a b D E d,CW.w d=w/\Le [2] W0 d/\l=[b,D,E,vI a]/\Ow d 2 [] [b] f/\Vm.zht x0 K m f a=some r) _ ⟨([]:List Int),0, .slice none 0 0,undef,undef,W0,O,Le.refl _ _,O,owN 2 [],Y⟩ ?_
 rintro(_ |m9) _ _ σ ⟨f,a,b,D,E,d,rfl,F,rfl,y,Y⟩
 ·cases Y
 unfold Vm.zht at Y
 have z:=F.s
 refine sr (Lw.lt O (nl (Cw.seq (cn Y (fun Y=>?_) fun Y=>?_))))
 ·refine sk ?_
  obtain⟨M,N,Y⟩:=zdC Y
  refine Cw.join 10 17 [3,4,5] (fun l w=> ∃ h i A B e,CW.w e=w/\Le [2] d e/\l=[i,A,B]/\Ow e 2 [] [i] h/\M h=some r) ?_ ?_
  ·rintro _ _ σ ⟨h,i,A,B,e,rfl,P,rfl,Q,Y⟩
   rw[N]at Y
   exact rg (Lw.add O (mi O (nl ((agm) ⟨h,w64 (a+1),i,A,B,e,O,(F.j P).w,O,Q,Y⟩))))
  ·refine Cw.block (sr (mi O ?_))
   obtain⟨G,H,Y⟩:=ob Y
   refine Lw.r O (R.ix (α:=Bool) (x.ul z) H O O O) (Lw.r O (R.ld O O ((x.ul z).at_ H).bool) (Gi O (Nb O (sr (mb O (nl (cn Y (fun Y=>?_) fun Y=>?_)))))))
   ·refine rg (mv b O (mi O (Lw.t O (T.bs 3 [vI a] (cs:=[vI a]) O O (bsv O)) ?_)))
    rintro _ _ ⟨ac,ae,rfl,rfl,I,S⟩
    obtain⟨U,V,Y⟩:=ob Y
    refine Lw.t O (T.app1S (α:=Int) (K':=[]) (y.up I) S (rdI _) O O V) ?_
    rintro J _ ⟨W,rfl,X,Z⟩
    exact Nv J O ((ag) ⟨U,J,vI a,vB G,W,O,(I.j X).w,O,Z,Y⟩)
   ·exact sk ((ag) ⟨f,b,vI a,vB G,d,O,Le.refl _ _,O,y,Y⟩)
 ·refine Cw.exit ?_
  rw[L]at Y
  refine sr (mv b O (Nv b O ?_))
  cases Y
  exact Cw.ret (zj5 O (Res.mk z ⟨b,O,y.s.sub O O⟩))
theorem p103 {x0 b k0 r}(d:Rd W K [b] x0)(Y:Vm.zkI x0=some r):Q1 103 [b] W [] fun W' v=> ∃ a,v=a/\Ow W' k0 [] [a] r:=
 (c103 (d.view _) Y).ad (fk k0) fun _ _ ⟨a,e,f⟩=>⟨a,e,f.back (zkx _)⟩
theorem c130 {x0 a r}(x:Ow W0 2 [] [a] x0)(Y:Vm.zdM x0=some r):Q0 130 [a] W0 fun Wf v=>v = .tuple #[]/\Ow Wf 2 [] [a] r:=by
 unfold Vm.zdM at Y
 refine zaO.of Tryz.func130 O O O O (sr (mv a O (Lw.ln x0 x.rd O (Lw.sub O (Gi O (Ni O (Cw.block ?_)))))))
 obtain⟨A,B,Y⟩:=zdC Y
 refine Cw.loop 7 27 [2,3] (fun m l w=> ∃ d e h f,CW.w f=w/\Le [2] W0 f/\l=[vI d,vI e]/\Ow f 2 [] [a] h/\Vm.zd0 A m d e h=some r) _ ⟨0,w64 ((x0.length:Int)-1),x0,W0,O,Le.refl _ _,O,x,Y⟩ ?_
 rintro(_ |N) _ _ σ ⟨d,e,h,f,rfl,y,rfl,z,Y⟩
 ·cases Y
 unfold Vm.zd0 at Y
 have C:=y.s
 refine ssr (mi O (mi O (Lw.lt O (nl (cn Y (fun Y=>?_) fun Y=>?_)))))
 ·refine sk (Cw.seq (Cw.block (Cw.draw [] [(0,0),(1,0),(2,0),(3,0),(4,0),(5,0),(6,0),(7,1),(8,0),(9,0),(10,0),(11,1),(12,0),(13,3),(14,0),(15,3)] mixed (by kernel_rfl) fun P l10=>?_)))
  have b:=z.up l10
  refine Dv a O (Di O (Dv a O (Di O (Dv a O (Di O ?_)))))
  obtain⟨Q,i,Y⟩:=ob Y
  refine Mw.p O O (fun _=>R.ix (α:=Int) b.rd i O O O) (Mw.q O O (fun _ c=>R.ld O O (zaR (b.rd.at_ i).1 O (b.rd.at_ i).int c)) (Dv a O (Di O ?_)))
  obtain⟨S,k,Y⟩:=ob Y
  refine Mw.p O O (fun _=>R.ix (α:=Int) b.rd k O O O) (Mw.q O O (fun _ c=>R.ld O O (zaR (b.rd.at_ k).1 O (b.rd.at_ k).int c)) ?_)
  obtain⟨U,D,Y⟩:=ob Y
  refine Mw.p O O (fun _=>R.ix (α:=Int) b.rd D O O O) ?_
  obtain⟨V,E,Y⟩:=ob Y
  refine Mw.lu O (T.stS (K':=[]) b (rdI _) E O O O) ?_
  rintro _ _ ⟨W,rfl,F,G⟩
  obtain⟨X,H,Y⟩:=ob Y
  refine Mw.p O O (fun _=>R.ix (α:=Int) b.rd H O O O) ?_
  obtain⟨I,J,Y⟩:=ob Y
  refine Mw.lu O (T.stS (K':=[]) G (rdI _) J O O O) ?_
  rintro _ _ ⟨K,rfl,L,M⟩
  exact Mw.nil (rg (mi O (Lw.add O (mi O (Lw.sub O (Gi O (Ni O ((agm) ⟨w64 (d+1),w64 (e-1),I,K,O,(((y.j l10).j F).j L).w,O,M,Y⟩))))))))
 ·refine Cw.exit ?_
  rw[B]at Y
  cases Y
  show zuP _ _ _ .ret _ _
  exact zAB (Res.mk C ⟨O,z⟩)
theorem p130 {x0 a c0 r}(b:Ow W c0 [] [a] x0)(hJ:okJ K [c0]=true)(Y:Vm.zdM x0=some r):Q1 130 [a] W [c0] fun W' v=>v = .tuple #[]/\Ow W' c0 [] [a] r:=
 zaO.adJ (J:=[c0]) (fun c=>bif Nat.beq c 0 then 0 else bif Nat.beq c 2 then c0 else 0) (c130 (b.viewJ 0 hJ) Y) fun _ _ ⟨e,d⟩=>⟨e,Ow.backJ 0 d O⟩
theorem c81_82 {x0 Z aa x1 x3 b h i x4 d r}(h0:Rd W0 [0] [Z,aa] x0)(hB3:Bx W0 2 b [h,i])(ay:Rd W0 [0] [h] x3.Commits)(az:Rd W0 [0] [i] x3.Heads)(hB4:Bx W0 3 d [vS x4])(a0:Gl 0 W0 [0])(Y:Vm.zdV x0 x1 x3 x4=some r):Q0 81 [.agg [Z,aa].toArray,vI x1, .func (.func 82) #[] [ptr (bx b),ptr (bx d)].toArray] W0 fun Wf v=> ∃ u0,v=u0/\OwS Wf [31] [] [u0] r/\Bx Wf 2 b [h,i]/\Bx Wf 3 d [vS x4]:=by
 unfold Vm.zdV at Y
 obtain⟨b5,b6,ae,af,ah⟩:=Repo.split h0
 simp only[List.cons.injEq,and_true,true_and]at ae
 obtain⟨rfl,rfl⟩:=ae
 refine zaO.of Tryz.func81 O O O O (sr (bo 4 O fun g1 W1 I b1=>?_))
 have a2:=I.o
 have b3:=hB3.up I
 have b4:=hB4.up I
 refine Nv (.slice none 0 0) O (ssr (la b1 (mi O (Lw.t O (T.bsS (α:=Int) (xs:=[x1]) 5 [] (W:=W1) [vI x1] (Each.cons ((rdI _)) Each.nil) O) ?_))))
 rintro v5 _ ⟨W5,rfl,x,o5⟩
 have y:=a2.n x
 refine ca Y (fun _=>p71 (K:=[0,5]) ((Repo.rd (K:=[0]) x0.Commits x0.Heads (af.ul y) (ah.ul y)).sub (M:=[0,5]) O) (o5.rd.sub (M:=[0,5]) O) ((a0.ul y).sub (M:=[0,5]) O)) fun cb cc Y z=>?_
 have A:=y.n z
 have aj:=(b3.up x).up z
 have ak:=(b4.up x).up z
 refine Lw.r O (R.not O) (nl (cn Y (fun Y=>?_) fun Y=>?_))
 ·refine sr (Nv (.slice none 0 0) O ?_)
  cases Y
  exact Cw.ret (zj5 O (Res.mk A ⟨.slice none 0 0,O,(zo3 []).sub O O,aj,ak⟩))
 ·refine sk (sr (Nv (.slice none 0 0) O (ssr (la ((b1.up x).up z) (mi O (cr Y (fun _=>p108 (k0:=6) (Repo.rd (K:=[0]) x0.Commits x0.Heads (af.ul A) (ah.ul A))) ?_))))))
  rintro cd ce cf Y J ⟨_,rfl,a8⟩
  have a9:=A.n J
  refine cr Y (fun _=>p103 (K:=[6]) (k0:=7) a8.rd) ?_
  rintro am cg an Y L ⟨_,rfl,N⟩
  have ba:=a9.n L
  refine Lw.ln am N.rd O (mi O (nl (Cw.block ?_)))
  obtain⟨bb,bc,Y⟩:=zdC Y
  refine Cw.loop 20 31 [7,9,20] (fun m l w=> ∃ B C a ao e,CW.w e=w/\Le [2,3,8] an e/\l=[a,ao,vI C]/\Ow e 8 [] [a] B/\Bx e 2 b [h,i]/\Bx e 3 d [vS x4]/\Vm.zba x3 x4 am bb m B C=some r) _ ⟨([]:List Int),0, .slice none 0 0,undef,an,O,Le.refl _ _,O,owN 8 [],((aj.up J).up L),((ak.up J).up L),Y⟩ ?_
  rintro(_ |ch) _ _ σ ⟨B,C,a,ao,e,rfl,D,rfl,P,ap,aq,Y⟩
  ·cases Y
  unfold Vm.zba at Y
  have Q:=ba.t D
  refine sr (Lw.lt O (nl (Cw.seq (cn Y (fun Y=>?_) fun Y=>?_))))
  ·refine sk ?_
   obtain⟨be,bg,Y⟩:=zdC Y
   refine Cw.join 22 30 [7,9] (fun l w=> ∃ E F S f,CW.w f=w/\Le [2,3,8] e f/\l=[F,S]/\Ow f 8 [] [F] E/\Bx f 2 b [h,i]/\Bx f 3 d [vS x4]/\be E=some r) ?_ ?_
   ·rintro _ _ σ ⟨E,F,S,f,rfl,bh,rfl,bi,bj,bk,Y⟩
    rw[bg]at Y
    exact rg (Lw.add O (mi O (nl ((agm) ⟨E,w64 (C+1),F,S,f,O,(D.j bh).w,O,bi,bj,bk,Y⟩))))
   ·refine Cw.block (sr ?_)
    obtain⟨k,ar,Y⟩:=ob Y
    refine Lw.r O (R.ix (α:=Int) (N.up D).rd ar O O O) (Lw.r O (R.ld O O ((N.up D).rd.at_ ar).int) (Ni O (sr (mv (.func (.func 82) #[] [ptr (bx b),ptr (bx d)].toArray) O (mi O ?_)))))
    obtain⟨ci,bl,Y⟩:=ob Y
    refine Lw.t O (T.callV (vals:=[vI k]) (caps:=[ptr (bx b),ptr (bx d)]) O O (p82 (c0:=2) (c1:=3) (x1:=(Vm.Repo.mk x3.Commits x3.Heads)) (x2:=x4) ap (ay.ul Q) (az.ul Q) aq O bl)) ?_
    rintro _ _ ⟨bm,rfl,G,⟨rfl,au,av⟩⟩
    refine nl (cn Y (fun Y=>?_) fun Y=>?_)
    ·refine rg (mv a O (mi O (Lw.t O (T.bs 9 [vI k] (cs:=[vI k]) O O (bsv O)) ?_)))
     rintro _ _ ⟨cj,ck,rfl,rfl,H,bn⟩
     obtain⟨bp,bq,Y⟩:=ob Y
     refine Lw.t O (T.app1S (α:=Int) (K':=[]) ((P.up G).up H) bn (rdI _) O O bq) ?_
     rintro aw _ ⟨br,rfl,U,bu⟩
     exact Nv aw O ((ag) ⟨bp,aw,vI k,br,O,((G.j H).j U).w,O,bu,((au.up H).up U),((av.up H).up U),Y⟩)
    ·exact sk ((ag) ⟨B,a,vI k,bm,O,G.w,O,(P.up G),au,av,Y⟩)
  ·refine Cw.exit ?_
   rw[bc]at Y
   refine sr (mv a O (cr Y (fun _=>p130 (K:=[0]) (c0:=8) P O) ?_))
   rintro cl _ cm Y V ⟨rfl,bv⟩
   have bw:=Q.t V
   refine nl (sr (mv a O (Nv a O ?_)))
   obtain⟨co,bz,X,b0⟩:=bv.dyeO 31
   have b2:=bw.t X
   cases Y
   rw[<- bz]
   exact Cw.ret (zj5 O (Res.mk b2 ⟨a,O,b0.s,((ap.up V).up X),((aq.up V).up X)⟩))
theorem p81_82 {x0 i k x1 x3 b d f x4 h k0 c0 c1 r}(x:Rd W K [i,k] x0)(hB3:Bx W c0 b [d,f])(y:Rd W K [d] x3.Commits)(z:Rd W K [f] x3.Heads)(hB4:Bx W c1 h [vS x4])(A:Gl 0 W K)(hJ:okJ K [c0,c1]=true)(Y:Vm.zdV x0 x1 x3 x4=some r):Q1 81 [.agg [i,k].toArray,vI x1, .func (.func 82) #[] [ptr (bx b),ptr (bx h)].toArray] W [c0,c1] fun W' v=> ∃ a,v=a/\Ow W' k0 [] [a] r/\Bx W' c0 b [d,f]/\Bx W' c1 h [vS x4]:=
 zaO.adJ (J:=[c0,c1]) (fun c=>bif Nat.beq c 0 then 0 else bif Nat.beq c 2 then c0 else bif Nat.beq c 3 then c1 else bif Nat.beq c 31 then k0 else 0) (c81_82 (x.view _) (hB3.viewJ 0 hJ) (y.view _) (z.view _) (hB4.viewJ 1 hJ) (A.view _) Y) fun _ _ ⟨a,e,B,C,D⟩=>⟨a,e,B.one1.backN O,Bx.backJ 0 C O,Bx.backJ 1 D O⟩
theorem c25 {x0 d e x1 x2 r}(z:Rd W0 [0] [d,e] x0)(A:Gl 0 W0 [0])(Y:Vm.zj8 x0 x1 x2=some r):Q0 25 [.agg [d,e].toArray,vI x1,vS x2] W0 fun Wf v=> ∃ f,v=f/\OwS Wf LL [] [f] r:=by
 unfold Vm.zj8 at Y
 obtain⟨J,L,h,i,k⟩:=Repo.split z
 simp only[List.cons.injEq,and_true,true_and]at h
 obtain⟨rfl,rfl⟩:=h
 refine zaO.of Tryz.func25 O O O O (sr (bo 2 O fun B M C x=>?_))
 have D:=C.o
 refine Lw.t O (T.box 3 (v:=vS x2) (cs:=[vS x2]) O O) ?_
 rintro _ _ ⟨E,N,rfl,rfl,b,F⟩
 have a:=D.n b
 refine Nv (.slice none 0 0) O (sr (la (x.up b) (mi O (Lw.r O (R.mkF (vs:=[ptr (bx B),ptr (bx E)]) O) (cr Y (fun _=>p81_82 (k0:=4) (c0:=2) (c1:=3) (x3:=x0) (x4:=x2) (Repo.rd (K:=[0]) x0.Commits x0.Heads (i.ul a) (k.ul a)) (x.up b) (i.ul a) (k.ul a) F (A.ul a) O) ?_)))))
 rintro P y Q Y G ⟨_,rfl,H,S,U⟩
 have I:=a.t G
 refine Nv y O ?_
 cases Y
 exact Cw.ret (zj5 O (Res.mk I ⟨y,O,H.s.sub O O⟩))
theorem p25 {x0 b d x1 x2 k0 r}(f:Rd W K [b,d] x0)(h:Gl 0 W K)(Y:Vm.zj8 x0 x1 x2=some r):Q1 25 [.agg [b,d].toArray,vI x1,vS x2] W [] fun W' v=> ∃ a,v=a/\Ow W' k0 [] [a] r:=
 (c25 (f.view _) (h.view _) Y).ad (fk k0) fun _ _ ⟨a,e,i⟩=>⟨a,e,i.back (zkx _)⟩
theorem c4 {x0 C r}(h0:Rd W0 [0] [C] x0)(ai:Gl 0 W0 [0])(Y:Vm.zi5 x0=some r):Q0 4 [C] W0 fun Wf v=>v=vB r:=by
 unfold Vm.zi5 at Y
 refine zaO.of Tryz.func4 O O O O (sr (Nb O (ssr (mv C O (Lw.ln x0 h0 O (Lw.gt O (nl (cn Y (fun Y=>?_) fun Y=>?_))))))))
 ·exact sr (Nb O (.ret (rt Y (Le.refl _ _))))
 ·refine sk (sr (mv C O (cr Y (fun _=>p23 (k0:=2) (k1:=3) h0) ?_)))
  rintro a _ W4 Y l4 ⟨x,y,rfl,aj,ak⟩
  have a5:=l4.o
  refine mv (.tuple [.agg [x,y].toArray,vI a.2.1,vS a.2.2].toArray) O (Lw.r O (R.ext (vs:=[.agg [x,y].toArray,vI a.2.1,vS a.2.2]) (v:= .agg [x,y].toArray) O O) (Lw.r O (R.ext (vs:=[.agg [x,y].toArray,vI a.2.1,vS a.2.2]) (v:=vI a.2.1) O O) (Lw.r O (R.ext (vs:=[.agg [x,y].toArray,vI a.2.1,vS a.2.2]) (v:=vS a.2.2) O O) (al 4 [.slice none 0 0, .slice none 0 0] fun g6 W6 z b6=>?_))))
  have a7:=a5.n z
  refine sta b6 (zah (aj.up z).oc (zah (ak.up z).oc za4)) fun b0 l10 L=>?_
  have am:=a7.t l10
  have N:=(aj.up z).up l10
  have P:=(ak.up z).up l10
  refine Gi O (Ns O (sr (la L (mi O (ms O (cr Y (fun _=>p22 (K:=[0,2,3]) (k0:=5) (x0:=(Vm.Repo.mk a.1.Commits a.1.Heads)) ((Repo.rd (K:=[2,3]) a.1.Commits a.1.Heads (N.rd.sub (M:=[2,3]) O) (P.rd.sub (M:=[2,3]) O)).sub (M:=[0,2,3]) O) ((ai.ul am).sub (M:=[0,2,3]) O)) ?_))))))
  rintro D d a3 Y e ⟨_,rfl,E⟩
  have a4:=am.n e
  refine Nv d O (Cw.seq ?_)
  obtain⟨a6,a8,Y⟩:=zdC Y
  refine Cw.join 22 33 [33] (fun l w=> ∃ Q S,CW.w S=w/\Le [] a3 S/\l=[vB Q]/\a6 Q=some r) ?_ ?_
  ·rintro _ _ σ ⟨Q,S,rfl,f,rfl,Y⟩
   rw[a8]at Y
   have U:=a4.n f
   have V:=(N.up e).up f
   have an:=(P.up e).up f
   have W:=(L.up e).up f
   refine cn Y (fun Y=>?_) fun Y=>?_
   ·refine sr (mv d O (la W (mi O (ms O (cr Y (fun _=>p24 (K:=[2,3]) (k0:=6) (x0:=(Vm.Repo.mk a.1.Commits a.1.Heads)) (Repo.rd (K:=[2,3]) a.1.Commits a.1.Heads (V.rd.sub (M:=[2,3]) O) (an.rd.sub (M:=[2,3]) O))) ?_)))))
    rintro b1 b2 b3 Y ao ⟨_,rfl,a9⟩
    have ba:=U.n ao
    refine ca Y (fun _=>p17 (K:=[5,6]) (((E.up f).up ao).rd.sub (M:=[5,6]) O) (a9.rd.sub (M:=[5,6]) O)) fun b4 b5 Y bb=>?_
    have bc:=ba.n bb
    exact Nb O (.ret (rt Y bc))
   ·refine sk (sr (la W (mi O (ms O (cr Y (fun _=>p25 (K:=[0,2,3]) (k0:=7) (x0:=(Vm.Repo.mk a.1.Commits a.1.Heads)) ((Repo.rd (K:=[2,3]) a.1.Commits a.1.Heads (V.rd.sub (M:=[2,3]) O) (an.rd.sub (M:=[2,3]) O)).sub (M:=[0,2,3]) O) ((ai.ul U).sub (M:=[0,2,3]) O)) ?_)))))
    rintro be ap aq Y F ⟨_,rfl,bg⟩
    have bh:=U.n F
    refine Nv ap O (ssr (Ni O (Cw.block ?_)))
    obtain⟨bi,bj,Y⟩:=zdC Y
    refine Cw.loop 44 69 [2,8] (fun m l w=> ∃ G A H,CW.w H=w/\Le [] aq H/\l=[vB G,vI A]/\Vm.zfi a D be bi m G A=some r) _ ⟨false,0,aq,O,Le.refl _ _,O,Y⟩ ?_
    rintro(_ |b7) _ _ σ ⟨G,A,H,rfl,h,rfl,Y⟩
    ·cases Y
    unfold Vm.zfi at Y
    have ar:=bh.n h
    have au:=((E.up f).up F).up h
    refine ssr (mi O (mv d O (Lw.ln D au.rd O (Lw.lt O (nl (cn Y (fun Y=>?_) fun Y=>?_))))))
    ·refine sk (Cw.seq (Cw.block ?_))
     obtain⟨bk,bl,Y⟩:=zdC Y
     refine Cw.join 50 69 [69] (fun l w=> ∃ X I,CW.w I=w/\Le [] H I/\l=[vB X]/\bk X=some r) ?_ ?_
     ·rintro _ _ σ ⟨X,I,rfl,av,rfl,Y⟩
      rw[bl]at Y
      have bm:=ar.n av
      refine cn Y (fun Y=>?_) fun Y=>?_
      ·exact sr (Nb O (.ret (rt Y bm)))
      ·exact sk (rg (mi O (Lw.add O (Ni O ((agm) ⟨G,w64 (A+1),I,O,(h.j av).w,O,Y⟩)))))
     ·refine Cw.draw [] [(0,0),(1,1),(2,0),(3,0),(4,0),(5,1),(6,0),(7,0),(8,1),(9,0),(10,0),(11,0),(12,0),(13,0),(14,0),(15,0),(16,1),(17,2),(18,0),(19,0)] mixed (by kernel_rfl) fun bn i=>?_
      have Z:=((V.up F).up h).up i
      have k:=au.up i
      refine Dfl (((W.up F).up h).up i) O O O (Dv d O (Di O ?_))
      obtain⟨b8,aa,Y⟩:=ob Y
      refine Mw.p O O (fun _=>R.ix (α:=Int) k.rd aa O O O) (Mw.q O O (fun _ c=>R.ld O O (zaR (k.rd.at_ aa).1 O (k.rd.at_ aa).int c)) ?_)
      obtain⟨bp,ac,Y⟩:=ob Y
      refine Mw.p O O (fun _=>R.ix (α:=Commit) Z.rd ac O O O) (Df O ?_)
      obtain⟨b9,c91,r92⟩:=(Commit.at0 (Z.rd.at_ ac)).cell O
      refine Mw.q O O (fun _ c=>R.ld O O (zaR (Commit.at0 (Z.rd.at_ ac)).1 O c91 c)) (Mw.p O O (fun _=>zqP (xs:=bp.Parents) r92 O) (Mw.p O O (fun _=>R.lt O O) (Db O (bs Y (fun b Y=>?_) fun b Y=>?_))))
      ·refine Wp b O (fun _=>R.mv (v:=ap) O) (Wp b O (fun _=>R.mv (v:=d) O) (Wp b O (fun _=>R.mv (v:=vI A) O) ?_))
       obtain⟨cb,ae,Y⟩:=ob Y
       refine Wp b O (fun _=>R.ix (α:=Int) k.rd ae O O O) (Wq b O (fun _ c=>R.ld O O (zaR (k.rd.at_ ae).1 O (k.rd.at_ ae).int c)) ?_)
       obtain⟨aw,bq,Y⟩:=ob Y
       refine Wt b O (T.call O (p26 (K:=[7]) ((bg.up h).up i).rd bq)) ?_
       rintro _ _ ⟨br,rfl,ax,rfl⟩
       exact m0 ax fun cc=>Wp b O (fun _=>R.not O) (Mw.p O O (fun _=>R.pk b O (v:=vB (!aw)) O) (Mw.nil ((ag) ⟨(!aw),br,O,(i.j ax).w,O,Y⟩)))
      ·exact dps 7 b O (Mw.p O O (fun _=>R.pk b O (v:=vB false) O) (Mw.nil ((ag) ⟨false,bn,O,i,O,Y⟩)))
    ·refine Cw.exit ?_
     rw[bj]at Y
     exact sr (Nb O (.ret (rt Y ar)))
  ·refine rg (mv d O (la (L.up e) (mi O (ms O (cr Y (fun _=>p24 (K:=[2,3]) (k0:=8) (x0:=(Vm.Repo.mk a.1.Commits a.1.Heads)) (Repo.rd (K:=[2,3]) a.1.Commits a.1.Heads ((N.up e).rd.sub (M:=[2,3]) O) ((P.up e).rd.sub (M:=[2,3]) O))) ?_)))))
   rintro cd ce cf Y J ⟨_,rfl,bu⟩
   refine ca Y (fun _=>p17 (K:=[5,8]) ((E.up J).rd.sub (M:=[5,8]) O) (bu.rd.sub (M:=[5,8]) O)) fun cg ay Y af=>Lw.r O (R.not O) (mb O (bs Y (fun B Y=>?_) fun B Y=>?_))
   ·exact psk 3 B O (Pb B O (nl ((ag) ⟨true,ay,O,(J.j af).w,O,Y⟩)))
   ·exact wak 3 B (mv d O (Lw.ln D ((E.up J).up af).rd O (Lw.eq O (Pb B O (nl ((ag) ⟨((D.length:Int)==0),ay,O,(J.j af).w,O,Y⟩))))))
theorem p4 {x0 a r}(b:Rd W K [a] x0)(d:Gl 0 W K)(Y:Vm.zi5 x0=some r):Q1 4 [a] W [] fun W' v=>v=vB r:=
 (c4 (b.view _) (d.view _) Y).ad (fk 0) fun _ _ e=>e
end Go.Sx
