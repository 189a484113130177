/- Walks: each function answers as its model, printed by a program of ours. Conditions: the arguments read as they are given. -/
import Derived.Test.YtiahldhbknpmiaaGreatDoorBTs
import Derived.Test.YtiahldhbknpmiaaGreatDoorBM11
import Derived.Test.YtiahldhbknpmiaaGreatDoorBW0
import Derived.Test.YtiahldhbknpmiaaGreatDoorBW1
import Derived.Test.YtiahldhbknpmiaaGreatDoorBW13
import Derived.Test.YtiahldhbknpmiaaGreatDoorBW3
import Derived.Test.YtiahldhbknpmiaaGreatDoorBW5
import Derived.Test.YtiahldhbknpmiaaGreatDoorBW6
import Derived.Test.YtiahldhbknpmiaaGreatDoorBW7
import Derived.Test.YtiahldhbknpmiaaGreatDoorBW8
namespace Go.Sx
open Go Go.Proofs Go.Vm Rp
set_option linter.unusedVariables false
set_option linter.unusedSimpArgs false
variable {W W0:CW}{K:List Nat}
theorem c63 {x0 x r}(h0:Rd W0 [0] [x] x0)(Y:Vm.zji x0=some r):Q0 63 [x] W0 fun Wf v=> ∃ I J,v = .tuple [.agg [I,J].toArray,vI r.2.1,vS r.2.2].toArray/\OwS Wf [31] [] [I] r.1.Commits/\OwS Wf [32] [] [J] r.1.Heads:=by
 unfold Vm.zji at Y
 refine zaY.of Tryz.func63 O O O O (sr (al 2 [.slice none 0 0, .slice none 0 0] fun g1 W1 l1 b1=>?_))
 have L:=l1.o
 refine Gi O (Ns O (sr (mv x O (cr Y (fun _=>p127 (k0:=3) (h0.ul L)) ?_))))
 rintro y _ W6 Y N ⟨bc,be,rfl,ak,am⟩
 have z:=am.sub (M:=[0]) O
 have a8:=L.n N
 refine Np O (sr (mp O (cr Y (fun _=>p128 (k0:=4) (k1:=5) (c0:=3) (x0:=y) ak z O) ?_)))
 rintro f _ bg Y P ⟨A,B,rfl,Q,S,ao⟩
 have C:=P.s
 refine al 6 [.slice none 0 0, .slice none 0 0] fun bh bi a ap=>?_
 have D:=a.o
 refine sta ap (zai (Q.up a).oc (zai (S.up a).oc zbt)) fun bj h U=>?_
 have E:=h.s
 have V:=(Q.up a).up h
 have X:=(S.up a).up h
 refine nl (sr (mp O (la U (cr Y (fun _=>p130 (K:=[0,4,5]) (c0:=3) (x0:=(Vm.l30Rd.mk y.b f.2)) (x1:=(Vm.Repo.mk f.1.Commits f.1.Heads)) ((ao.up a).up h) ((z.ul ((C.trans D).trans E)).sub (M:=[0,4,5]) O) ((Repo.rd (K:=[4,5]) f.1.Commits f.1.Heads (V.rd.sub (M:=[4,5]) O) (X.rd.sub (M:=[4,5]) O)).sub (M:=[0,4,5]) O) O) ?_))))
 rintro aq _ bk Y i ⟨rfl,ar⟩
 have Z:=i.s
 refine Ni O (Cw.seq (Cw.draw [3] [(0,1),(1,0),(2,0),(3,2),(4,2),(5,3),(6,0),(7,0)] mixed (by kernel_rfl) fun au d=>?_))
 have aa:=d.o
 refine Mw.q O O (fun _ c=>R.lda (cs:=[A,B]) (((U.up i).up d).clcs O c) O O) (Di O (Dp O (Mw.t O O (T.bsS (α:=Str) (xs:=[([97,110,110]:Str),([98,111,98]:Str),([110,111,98,111,100,121]:Str)]) 7 [] (W:=au) [vS ([97,110,110]:Str),vS ([98,111,98]:Str),vS ([110,111,98,111,100,121]:Str)] (Each.cons ((rdS _)) (Each.cons ((rdS _)) (Each.cons ((rdS _)) Each.nil))) O) ?_)))
 rintro bl _ ⟨bm,rfl,e,av⟩
 have ac:=e.o
 refine m0 e fun aw=>?_
 obtain⟨bn,ax,Y⟩:=ob Y
 refine Mw.t O O (T.call O (p135 (K:=[0,7]) (c0:=3) (x0:=(Vm.l30Rd.mk y.b aq.2)) ((ar.up d).up e) ((z.ul (((((C.trans D).trans E).trans Z).trans aa).trans ac)).sub (M:=[0,7]) O) (av.rd.sub (M:=[0,7]) O) O ax)) ?_
 rintro _ _ ⟨bp,rfl,k,⟨rfl,bq⟩⟩
 have ay:=((((((a8.trans C).trans D).trans E).trans Z).trans aa).trans ac).t k
 have ae:=(((V.up i).up d).up e).up k
 have af:=(((X.up i).up d).up e).up k
 refine mc aw k fun br=>Mw.lu O (T.sta (vs:=[A,B]) ((((((((b1.up N).up P).up a).up h).up i).up d).up e).up k) O O (zai ae.oc (zai af.oc zbt)) O O) ?_
 rintro _ _ ⟨bu,rfl,F,az⟩
 have a0:=ay.t F
 refine Hi O (Hs O (Mw.nil ?_))
 obtain⟨bv,a1,G,a3⟩:=(ae.up F).dyeO 31
 have a4:=a0.t G
 obtain⟨bw,a5,H,a6⟩:=((af.up F).up G).dyeO 32
 have a7:=a4.t H
 cases Y
 rw[<- a5.trans (a1)]
 exact Cw.ret (zvS (zjD.c O ((az.up G).up H) (zjD.t O (zjD.t O zjD.n))) (Res.mk a7 ⟨A,B,O,(a3.up H).s,a6.s⟩))
theorem p63 {x0 d k0 k1 r}(f:Rd W K [d] x0)(Y:Vm.zji x0=some r):Q1 63 [d] W [] fun W' v=> ∃ a b,v = .tuple [.agg [a,b].toArray,vI r.2.1,vS r.2.2].toArray/\Ow W' k0 [] [a] r.1.Commits/\Ow W' k1 [] [b] r.1.Heads:=
 zaY.adJ (J:=[]) (fun c=>bif Nat.beq c 0 then 0 else bif Nat.beq c 31 then k0 else bif Nat.beq c 32 then k1 else 0) (c63 (f.view _) Y) fun _ _ ⟨a,b,e,h,i⟩=>⟨a,b,e,h.one1.backN O,i.one1.backN O⟩
theorem c137 {x0 x1 a b d x2 e r}(hB1:Bx W0 2 a [b,d])(z:Rd W0 [0] [b] x1.Commits)(A:Rd W0 [0] [d] x1.Heads)(hB2:Bx W0 3 e [vS x2])(Y:Vm.zlw x0 x1 x2=some r):Q0 137 [vI x0,ptr (bx a),ptr (bx e)] W0 fun Wf v=>v=vB r/\Bx Wf 2 a [b,d]/\Bx Wf 3 e [vS x2]:=by
 unfold Vm.zlw at Y
 refine zaY.of Tryz.func137 O O O O (sr (Nb O (Cw.seq (Cw.draw [] [(0,0),(1,1),(2,0),(3,0),(4,0),(5,1),(6,1),(7,0),(8,0)] mixed (by kernel_rfl) fun B f=>?_))))
 have k:=f.o
 have x:=hB1.up f
 have y:=hB2.up f
 refine Dfl x O O O (Di O ?_)
 obtain⟨C,h,Y⟩:=ob Y
 have i:=z.ul k
 refine Mw.p O O (fun _=>R.ix (α:=Commit) i h O O O) (Df O (Mw.q O O (fun _ c=>R.ld O O (zaW (Commit.at1 (i.at_ h)).1 O (Commit.at1 (i.at_ h)).str c)) (Mw.q O O (fun _ c=>R.ld (v:=vS x2) O O (y.clc0 O O c)) (Mw.p O O (fun _=>R.seq O O) (Hb O (Mw.nil ?_))))))
 cases Y
 exact Cw.ret (zmc O (Res.mk k ⟨O,x,y⟩))
theorem p137 {x0 x1 a b d x2 f c0 c1 r}(hB1:Bx W c0 a [b,d])(h:Rd W K [b] x1.Commits)(i:Rd W K [d] x1.Heads)(hB2:Bx W c1 f [vS x2])(hJ:okJ K [c0,c1]=true)(Y:Vm.zlw x0 x1 x2=some r):Q1 137 [vI x0,ptr (bx a),ptr (bx f)] W [c0,c1] fun W' v=>v=vB r/\Bx W' c0 a [b,d]/\Bx W' c1 f [vS x2]:=
 zaY.adJ (J:=[c0,c1]) (fun c=>bif Nat.beq c 0 then 0 else bif Nat.beq c 2 then c0 else bif Nat.beq c 3 then c1 else 0) (c137 (hB1.viewJ 0 hJ) (h.view _) (i.view _) (hB2.viewJ 1 hJ) Y) fun _ _ ⟨e,k,x⟩=>⟨e,Bx.backJ 0 k O,Bx.backJ 1 x O⟩
theorem c183 {x0 a r}(x:Ow W0 2 [] [a] x0)(Y:Vm.zeH x0=some r):Q0 183 [a] W0 fun Wf v=>v = .tuple #[]/\Ow Wf 2 [] [a] r:=by
 unfold Vm.zeH at Y
 refine zaY.of Tryz.func183 O O O O (sr (mv a O (Lw.ln x0 x.rd O (Lw.sub O (Gi O (Ni O (Cw.block ?_)))))))
 obtain⟨A,B,Y⟩:=zdY Y
 refine Cw.loop 7 27 [2,3] (fun m l w=> ∃ d e h f,CW.w f=w/\Le [2] W0 f/\l=[vI d,vI e]/\Ow f 2 [] [a] h/\Vm.zeX A m d e h=some r) _ ⟨0,w64 ((x0.length:Int)-1),x0,W0,O,Le.refl _ _,O,x,Y⟩ ?_
 rintro(_ |N) _ _ σ ⟨d,e,h,f,rfl,y,rfl,z,Y⟩
 ·cases Y
 unfold Vm.zeX at Y
 have C:=y.s
 refine ssr (mi O (mi O (Lw.lt O (nl (cn Y (fun Y=>?_) fun Y=>?_)))))
 ·refine sk (Cw.seq (Cw.block (Cw.draw [] [(0,0),(1,0),(2,0),(3,0),(4,0),(5,0),(6,0),(7,1),(8,0),(9,0),(10,0),(11,1),(12,0),(13,3),(14,0),(15,3)] mixed (by kernel_rfl) fun P l10=>?_)))
  have b:=z.up l10
  refine Dv a O (Di O (Dv a O (Di O (Dv a O (Di O ?_)))))
  obtain⟨Q,i,Y⟩:=ob Y
  refine Mw.p O O (fun _=>R.ix (α:=Int) b.rd i O O O) (Mw.q O O (fun _ c=>R.ld O O (zaW (b.rd.at_ i).1 O (b.rd.at_ i).int c)) (Dv a O (Di O ?_)))
  obtain⟨S,k,Y⟩:=ob Y
  refine Mw.p O O (fun _=>R.ix (α:=Int) b.rd k O O O) (Mw.q O O (fun _ c=>R.ld O O (zaW (b.rd.at_ k).1 O (b.rd.at_ k).int c)) ?_)
  obtain⟨U,D,Y⟩:=ob Y
  refine Mw.p O O (fun _=>R.ix (α:=Int) b.rd D O O O) ?_
  obtain⟨V,E,Y⟩:=ob Y
  refine Mw.lu O (T.stS (K':=[]) b (rdI _) E O O O) ?_
  rintro _ _ ⟨W,rfl,F,G⟩
  obtain⟨X,H,Y⟩:=ob Y
  refine Mw.p O O (fun _=>R.ix (α:=Int) b.rd H O O O) ?_
  obtain⟨I,J,Y⟩:=ob Y
  refine Mw.lu O (T.stS (K':=[]) G (rdI _) J O O O) ?_
  rintro _ _ ⟨K,rfl,L,M⟩
  exact Mw.nil (rg (mi O (Lw.add O (mi O (Lw.sub O (Gi O (Ni O ((agm) ⟨w64 (d+1),w64 (e-1),I,K,O,(((y.j l10).j F).j L).w,O,M,Y⟩))))))))
 ·refine Cw.exit ?_
  rw[B]at Y
  cases Y
  show ztI _ _ _ .ret _ _
  exact zzH (Res.mk C ⟨O,z⟩)
theorem p183 {x0 a c0 r}(b:Ow W c0 [] [a] x0)(hJ:okJ K [c0]=true)(Y:Vm.zeH x0=some r):Q1 183 [a] W [c0] fun W' v=>v = .tuple #[]/\Ow W' c0 [] [a] r:=
 zaY.adJ (J:=[c0]) (fun c=>bif Nat.beq c 0 then 0 else bif Nat.beq c 2 then c0 else 0) (c183 (b.viewJ 0 hJ) Y) fun _ _ ⟨e,d⟩=>⟨e,Ow.backJ 0 d O⟩
theorem c136_137 {x0 Z aa x1 x3 b h i x4 d r}(h0:Rd W0 [0] [Z,aa] x0)(hB3:Bx W0 2 b [h,i])(ay:Rd W0 [0] [h] x3.Commits)(az:Rd W0 [0] [i] x3.Heads)(hB4:Bx W0 3 d [vS x4])(a0:Gl 0 W0 [0])(Y:Vm.ze2 x0 x1 x3 x4=some r):Q0 136 [.agg [Z,aa].toArray,vI x1, .func (.func 137) #[] [ptr (bx b),ptr (bx d)].toArray] W0 fun Wf v=> ∃ u0,v=u0/\OwS Wf [31] [] [u0] r/\Bx Wf 2 b [h,i]/\Bx Wf 3 d [vS x4]:=by
 unfold Vm.ze2 at Y
 obtain⟨b5,b6,ae,af,ah⟩:=Repo.split h0
 simp only[List.cons.injEq,and_true,true_and]at ae
 obtain⟨rfl,rfl⟩:=ae
 refine zaY.of Tryz.func136 O O O O (sr (bo 4 O fun g1 W1 I b1=>?_))
 have a2:=I.o
 have b3:=hB3.up I
 have b4:=hB4.up I
 refine Nv (.slice none 0 0) O (ssr (la b1 (mi O (Lw.t O (T.bsS (α:=Int) (xs:=[x1]) 5 [] (W:=W1) [vI x1] (Each.cons ((rdI _)) Each.nil) O) ?_))))
 rintro v5 _ ⟨W5,rfl,x,o5⟩
 have y:=a2.n x
 refine ca Y (fun _=>p122 (K:=[0,5]) ((Repo.rd (K:=[0]) x0.Commits x0.Heads (af.ul y) (ah.ul y)).sub (M:=[0,5]) O) (o5.rd.sub (M:=[0,5]) O) ((a0.ul y).sub (M:=[0,5]) O)) fun cb cc Y z=>?_
 have A:=y.n z
 have aj:=(b3.up x).up z
 have ak:=(b4.up x).up z
 refine Lw.r O (R.not O) (nl (cn Y (fun Y=>?_) fun Y=>?_))
 ·refine sr (Nv (.slice none 0 0) O ?_)
  cases Y
  exact Cw.ret (zmc O (Res.mk A ⟨.slice none 0 0,O,(zoR []).sub O O,aj,ak⟩))
 ·refine sk (sr (Nv (.slice none 0 0) O (ssr (la ((b1.up x).up z) (mi O (cr Y (fun _=>p126 (k0:=6) (Repo.rd (K:=[0]) x0.Commits x0.Heads (af.ul A) (ah.ul A))) ?_))))))
  rintro cd ce cf Y J ⟨_,rfl,a8⟩
  have a9:=A.n J
  refine cr Y (fun _=>p134 (K:=[6]) (k0:=7) a8.rd) ?_
  rintro am cg an Y L ⟨_,rfl,N⟩
  have ba:=a9.n L
  refine Lw.ln am N.rd O (mi O (nl (Cw.block ?_)))
  obtain⟨bb,bc,Y⟩:=zdY Y
  refine Cw.loop 20 31 [7,9,20] (fun m l w=> ∃ B C a ao e,CW.w e=w/\Le [2,3,8] an e/\l=[a,ao,vI C]/\Ow e 8 [] [a] B/\Bx e 2 b [h,i]/\Bx e 3 d [vS x4]/\Vm.zbS x3 x4 am bb m B C=some r) _ ⟨([]:List Int),0, .slice none 0 0,undef,an,O,Le.refl _ _,O,owN 8 [],((aj.up J).up L),((ak.up J).up L),Y⟩ ?_
  rintro(_ |ch) _ _ σ ⟨B,C,a,ao,e,rfl,D,rfl,P,ap,aq,Y⟩
  ·cases Y
  unfold Vm.zbS at Y
  have Q:=ba.t D
  refine sr (Lw.lt O (nl (Cw.seq (cn Y (fun Y=>?_) fun Y=>?_))))
  ·refine sk ?_
   obtain⟨be,bg,Y⟩:=zdY Y
   refine Cw.join 22 30 [7,9] (fun l w=> ∃ E F S f,CW.w f=w/\Le [2,3,8] e f/\l=[F,S]/\Ow f 8 [] [F] E/\Bx f 2 b [h,i]/\Bx f 3 d [vS x4]/\be E=some r) ?_ ?_
   ·rintro _ _ σ ⟨E,F,S,f,rfl,bh,rfl,bi,bj,bk,Y⟩
    rw[bg]at Y
    exact rg (Lw.add O (mi O (nl ((agm) ⟨E,w64 (C+1),F,S,f,O,(D.j bh).w,O,bi,bj,bk,Y⟩))))
   ·refine Cw.block (sr ?_)
    obtain⟨k,ar,Y⟩:=ob Y
    refine Lw.r O (R.ix (α:=Int) (N.up D).rd ar O O O) (Lw.r O (R.ld O O ((N.up D).rd.at_ ar).int) (Ni O (sr (mv (.func (.func 137) #[] [ptr (bx b),ptr (bx d)].toArray) O (mi O ?_)))))
    obtain⟨ci,bl,Y⟩:=ob Y
    refine Lw.t O (T.callV (vals:=[vI k]) (caps:=[ptr (bx b),ptr (bx d)]) O O (p137 (c0:=2) (c1:=3) (x1:=(Vm.Repo.mk x3.Commits x3.Heads)) (x2:=x4) ap (ay.ul Q) (az.ul Q) aq O bl)) ?_
    rintro _ _ ⟨bm,rfl,G,⟨rfl,au,av⟩⟩
    refine nl (cn Y (fun Y=>?_) fun Y=>?_)
    ·refine rg (mv a O (mi O (Lw.t O (T.bs 9 [vI k] (cs:=[vI k]) O O (bsv O)) ?_)))
     rintro _ _ ⟨cj,ck,rfl,rfl,H,bn⟩
     obtain⟨bp,bq,Y⟩:=ob Y
     refine Lw.t O (T.app1S (α:=Int) (K':=[]) ((P.up G).up H) bn (rdI _) O O bq) ?_
     rintro aw _ ⟨br,rfl,U,bu⟩
     exact Nv aw O ((ag) ⟨bp,aw,vI k,br,O,((G.j H).j U).w,O,bu,((au.up H).up U),((av.up H).up U),Y⟩)
    ·exact sk ((ag) ⟨B,a,vI k,bm,O,G.w,O,(P.up G),au,av,Y⟩)
  ·refine Cw.exit ?_
   rw[bc]at Y
   refine sr (mv a O (cr Y (fun _=>p183 (K:=[0]) (c0:=8) P O) ?_))
   rintro cl _ cm Y V ⟨rfl,bv⟩
   have bw:=Q.t V
   refine nl (sr (mv a O (Nv a O ?_)))
   obtain⟨co,bz,X,b0⟩:=bv.dyeO 31
   have b2:=bw.t X
   cases Y
   rw[<- bz]
   exact Cw.ret (zmc O (Res.mk b2 ⟨a,O,b0.s,((ap.up V).up X),((aq.up V).up X)⟩))
theorem p136_137 {x0 i k x1 x3 b d f x4 h k0 c0 c1 r}(x:Rd W K [i,k] x0)(hB3:Bx W c0 b [d,f])(y:Rd W K [d] x3.Commits)(z:Rd W K [f] x3.Heads)(hB4:Bx W c1 h [vS x4])(A:Gl 0 W K)(hJ:okJ K [c0,c1]=true)(Y:Vm.ze2 x0 x1 x3 x4=some r):Q1 136 [.agg [i,k].toArray,vI x1, .func (.func 137) #[] [ptr (bx b),ptr (bx h)].toArray] W [c0,c1] fun W' v=> ∃ a,v=a/\Ow W' k0 [] [a] r/\Bx W' c0 b [d,f]/\Bx W' c1 h [vS x4]:=
 zaY.adJ (J:=[c0,c1]) (fun c=>bif Nat.beq c 0 then 0 else bif Nat.beq c 2 then c0 else bif Nat.beq c 3 then c1 else bif Nat.beq c 31 then k0 else 0) (c136_137 (x.view _) (hB3.viewJ 0 hJ) (y.view _) (z.view _) (hB4.viewJ 1 hJ) (A.view _) Y) fun _ _ ⟨a,e,B,C,D⟩=>⟨a,e,B.one1.backN O,Bx.backJ 0 C O,Bx.backJ 1 D O⟩
theorem c64 {x0 d e x1 x2 r}(z:Rd W0 [0] [d,e] x0)(A:Gl 0 W0 [0])(Y:Vm.zlX x0 x1 x2=some r):Q0 64 [.agg [d,e].toArray,vI x1,vS x2] W0 fun Wf v=> ∃ f,v=f/\OwS Wf LL [] [f] r:=by
 unfold Vm.zlX at Y
 obtain⟨J,L,h,i,k⟩:=Repo.split z
 simp only[List.cons.injEq,and_true,true_and]at h
 obtain⟨rfl,rfl⟩:=h
 refine zaY.of Tryz.func64 O O O O (sr (bo 2 O fun B M C x=>?_))
 have D:=C.o
 refine Lw.t O (T.box 3 (v:=vS x2) (cs:=[vS x2]) O O) ?_
 rintro _ _ ⟨E,N,rfl,rfl,b,F⟩
 have a:=D.n b
 refine Nv (.slice none 0 0) O (sr (la (x.up b) (mi O (Lw.r O (R.mkF (vs:=[ptr (bx B),ptr (bx E)]) O) (cr Y (fun _=>p136_137 (k0:=4) (c0:=2) (c1:=3) (x3:=x0) (x4:=x2) (Repo.rd (K:=[0]) x0.Commits x0.Heads (i.ul a) (k.ul a)) (x.up b) (i.ul a) (k.ul a) F (A.ul a) O) ?_)))))
 rintro P y Q Y G ⟨_,rfl,H,S,U⟩
 have I:=a.t G
 refine Nv y O ?_
 cases Y
 exact Cw.ret (zmc O (Res.mk I ⟨y,O,H.s.sub O O⟩))
theorem p64 {x0 b d x1 x2 k0 r}(f:Rd W K [b,d] x0)(h:Gl 0 W K)(Y:Vm.zlX x0 x1 x2=some r):Q1 64 [.agg [b,d].toArray,vI x1,vS x2] W [] fun W' v=> ∃ a,v=a/\Ow W' k0 [] [a] r:=
 (c64 (f.view _) (h.view _) Y).ad (fk k0) fun _ _ ⟨a,e,i⟩=>⟨a,e,i.back (zk0 _)⟩
theorem c65 {x0 S U x1 x2 r}(h0:Rd W0 [0] [S,U] x0)(Y:Vm.zln x0 x1 x2=some r):Q0 65 [.agg [S,U].toArray,vI x1,vS x2] W0 fun Wf v=> ∃ V,v=V/\OwS Wf LL [] [V] r:=by
 unfold Vm.zln at Y
 obtain⟨bk,bl,W,d,X⟩:=Repo.split h0
 simp only[List.cons.injEq,and_true,true_and]at W
 obtain⟨rfl,rfl⟩:=W
 refine zaY.of Tryz.func65 O O O O (sr (bo 2 O fun g1 W1 l1 b1=>?_))
 have a2:=l1.o
 refine Nv (.slice none 0 0) O (sr (Lw.t O (T.lit0 (α:=Int) 3 []) ?_))
 rintro Z _ ⟨W3,rfl,l3,o3⟩
 have k:=a2.n l3
 have x:=b1.up l3
 refine Nv Z O (Cw.seq ?_)
 obtain⟨K8,av,Y⟩:=zdY Y
 refine Cw.join 11 22 [22] (fun l w=> ∃ H I,CW.w I=w/\Le [] W3 I/\l=[vB H]/\K8 H=some r) ?_ ?_
 ·rintro _ _ σ ⟨H,I,rfl,y,rfl,Y⟩
  rw[av]at Y
  have z:=k.n y
  refine cn Y (fun Y=>?_) fun Y=>?_
  ·refine sr (Nv (.slice none 0 0) O ?_)
   cases Y
   exact Cw.ret (zmc O (Res.mk z ⟨.slice none 0 0,O,(zoR []).sub O O⟩))
  ·refine sk (sr (la (x.up y) (mi O (cr Y (fun _=>p138 (k0:=4) (Repo.rd (K:=[0]) x0.Commits x0.Heads (d.ul z) (X.ul z))) ?_))))
   rintro J A ac Y L ⟨_,rfl,ae⟩
   have aw:=z.n L
   refine Nv A O (ssr (mv A O (Lw.ln J ae.rd O (Lw.sub O (Ni O (Cw.block ?_))))))
   obtain⟨ax,ay,Y⟩:=zdY Y
   refine Cw.loop 29 50 [7,9] (fun m l w=> ∃ B C a e,CW.w e=w/\Le [3] ac e/\l=[a,vI C]/\Ow e 3 [] [a] B/\Vm.zis x0 x2 J ax m B C=some r) _ ⟨([]:List Int),w64 ((J.length:Int)-1),Z,ac,O,Le.refl _ _,O,((o3.up y).up L),Y⟩ ?_
   rintro(_ |bp) _ _ σ ⟨B,C,a,e,rfl,D,rfl,M,Y⟩
   ·cases Y
   unfold Vm.zis at Y
   have af:=aw.t D
   refine ssr (mi O (Lw.ge O (nl (cn Y (fun Y=>?_) fun Y=>?_))))
   ·refine sk ?_
    obtain⟨az,a0,Y⟩:=zdY Y
    refine Cw.join 33 50 [7] (fun l w=> ∃ E F f,CW.w f=w/\Le [3] e f/\l=[F]/\Ow f 3 [] [F] E/\az E=some r) ?_ ?_
    ·rintro _ _ σ ⟨E,F,f,rfl,a1,rfl,a3,Y⟩
     rw[a0]at Y
     exact rg (mi O (Lw.sub O (Ni O ((agm) ⟨E,w64 (C-1),F,f,O,(D.j a1).w,O,a3,Y⟩))))
    ·refine Cw.block (Cw.seq (Cw.draw [] [(0,0),(1,1),(2,0),(3,0),(4,0),(5,1),(6,0),(7,0),(8,1),(9,0),(10,0)] mixed (by kernel_rfl) fun a5 b=>?_))
     have N:=af.n b
     have h:=(ae.up D).up b
     refine Dfl ((((x.up y).up L).up D).up b) O O O (Dv A O (Di O ?_))
     obtain⟨bq,P,Y⟩:=ob Y
     refine Mw.p O O (fun _=>R.ix (α:=Int) h.rd P O O O) (Mw.q O O (fun _ c=>R.ld O O (zaW (h.rd.at_ P).1 O (h.rd.at_ P).int c)) ?_)
     obtain⟨br,Q,Y⟩:=ob Y
     refine Mw.p O O (fun _=>R.ix (α:=Commit) (d.ul N) Q O O O) (Df O (Mw.q O O (fun _ c=>R.ld O O (zaW (Commit.at1 ((d.ul N).at_ Q)).1 O (Commit.at1 ((d.ul N).at_ Q)).str c)) (Ds O (Mw.p O O (fun _=>R.seq O O) (Mw.nil (cn Y (fun Y=>?_) fun Y=>?_))))))
     ·refine rg (mv a O (mv A O (mi O ?_)))
      obtain⟨ah,ai,Y⟩:=ob Y
      refine Lw.r O (R.ix (α:=Int) h.rd ai O O O) (Lw.r O (R.ld O O (h.rd.at_ ai).int) (Lw.t O (T.bs 5 [vI ah] (cs:=[vI ah]) O O (bsv O)) ?_))
      rintro _ _ ⟨bu,bv,rfl,rfl,aj,a6⟩
      obtain⟨a7,a8,Y⟩:=ob Y
      refine Lw.t O (T.app1S (α:=Int) (K':=[]) ((M.up b).up aj) a6 (rdI _) O O a8) ?_
      rintro ak _ ⟨ba,rfl,bb,bc⟩
      exact Nv ak O ((ag) ⟨a7,ak,ba,O,((b.j aj).j bb).w,O,bc,Y⟩)
     ·exact sk ((ag) ⟨B,a,a5,O,b.w,O,(M.up b),Y⟩)
   ·refine Cw.exit ?_
    rw[ay]at Y
    refine sr (mv a O (Nv a O ?_))
    cases Y
    exact Cw.ret (zmc O (Res.mk af ⟨a,O,M.s.sub O O⟩))
 ·refine rg (la x (ca Y (fun _=>p68 (Repo.rd (K:=[0]) x0.Commits x0.Heads (d.ul k) (X.ul k))) fun bw be Y G=>?_))
  have bg:=k.n G
  refine Lw.r O (R.not O) (mb O (bs Y (fun i Y=>?_) fun i Y=>?_))
  ·exact psk 7 i O (Pb i O (nl ((ag) ⟨true,be,O,G,O,Y⟩)))
  ·exact wak 7 i (mi O (fl (x.up G) O (Lw.ln x0.Commits (d.ul bg) O (Lw.sub O (ca Y (fun _=>p71) fun bh bi Y bj=>Lw.r O (R.not O) (Pb i O (nl ((ag) ⟨(!bh),bi,O,(G.j bj).w,O,Y⟩))))))))
theorem p65 {x0 b d x1 x2 k0 r}(f:Rd W K [b,d] x0)(Y:Vm.zln x0 x1 x2=some r):Q1 65 [.agg [b,d].toArray,vI x1,vS x2] W [] fun W' v=> ∃ a,v=a/\Ow W' k0 [] [a] r:=
 (c65 (f.view _) Y).ad (fk k0) fun _ _ ⟨a,e,h⟩=>⟨a,e,h.back (zk0 _)⟩
theorem c14 {x0 H r}(h0:Rd W0 [0] [H] x0)(Z:Gl 0 W0 [0])(Y:Vm.zlo x0=some r):Q0 14 [H] W0 fun Wf v=>v=vB r:=by
 unfold Vm.zlo at Y
 refine zaY.of Tryz.func14 O O O O (sr (Nb O (ssr (mv H O (Lw.ln x0 h0 O (Lw.gt O (nl (cn Y (fun Y=>?_) fun Y=>?_))))))))
 ·exact sr (Nb O (.ret (rt Y (Le.refl _ _))))
 ·refine sk (sr (mv H O (cr Y (fun _=>p63 (k0:=2) (k1:=3) h0) ?_)))
  rintro a _ W4 Y l4 ⟨y,z,rfl,az,a0⟩
  have a5:=l4.o
  refine mv (.tuple [.agg [y,z].toArray,vI a.2.1,vS a.2.2].toArray) O (Lw.r O (R.ext (vs:=[.agg [y,z].toArray,vI a.2.1,vS a.2.2]) (v:= .agg [y,z].toArray) O O) (Lw.r O (R.ext (vs:=[.agg [y,z].toArray,vI a.2.1,vS a.2.2]) (v:=vI a.2.1) O O) (Lw.r O (R.ext (vs:=[.agg [y,z].toArray,vI a.2.1,vS a.2.2]) (v:=vS a.2.2) O O) (al 4 [.slice none 0 0, .slice none 0 0] fun g6 W6 A b6=>?_))))
  have a7:=a5.n A
  refine sta b6 (zai (az.up A).oc (zai (a0.up A).oc zbt)) fun cl l10 a1=>?_
  have a2:=a7.t l10
  have a3:=(az.up A).up l10
  have a4:=(a0.up A).up l10
  refine Gi O (Ns O (sr (la a1 (mi O (ms O (cr Y (fun _=>p64 (K:=[0,2,3]) (k0:=5) (x0:=(Vm.Repo.mk a.1.Commits a.1.Heads)) ((Repo.rd (K:=[2,3]) a.1.Commits a.1.Heads (a3.rd.sub (M:=[2,3]) O) (a4.rd.sub (M:=[2,3]) O)).sub (M:=[0,2,3]) O) ((Z.ul a2).sub (M:=[0,2,3]) O)) ?_))))))
  rintro aa i br Y I ⟨_,rfl,ac⟩
  have a6:=a2.n I
  have ae:=a3.up I
  have J:=a4.up I
  have af:=a1.up I
  refine Nv i O (Cw.seq ?_)
  obtain⟨bu,bv,Y⟩:=zdY Y
  refine Cw.join 23 45 [45] (fun l w=> ∃ ah ai,CW.w ai=w/\Le [] br ai/\l=[vB ah]/\bu ah=some r) ?_ ?_
  ·rintro _ _ σ ⟨ah,ai,rfl,f,rfl,Y⟩
   rw[bv]at Y
   have aj:=a6.n f
   have ak:=ae.up f
   have am:=af.up f
   refine cn Y (fun Y=>?_) fun Y=>?_
   ·refine sr (mv i O (la am (mi O (ms O (cr Y (fun _=>p65 (K:=[2,3]) (k0:=6) (x0:=(Vm.Repo.mk a.1.Commits a.1.Heads)) (Repo.rd (K:=[2,3]) a.1.Commits a.1.Heads (ak.rd.sub (M:=[2,3]) O) ((J.up f).rd.sub (M:=[2,3]) O))) ?_)))))
    rintro cm co cp Y a8 ⟨_,rfl,bw⟩
    have bz:=aj.n a8
    refine ca Y (fun _=>p47 (K:=[5,6]) (((ac.up f).up a8).rd.sub (M:=[5,6]) O) (bw.rd.sub (M:=[5,6]) O)) fun cq cs Y b0=>?_
    have b1:=bz.n b0
    exact Nb O (.ret (rt Y b1))
   ·refine sk (sr (la am (mi O (cr Y (fun _=>p59 (K:=[0,2,3]) (k0:=7) (x0:=(Vm.Repo.mk a.1.Commits a.1.Heads)) ((Repo.rd (K:=[2,3]) a.1.Commits a.1.Heads (ak.rd.sub (M:=[2,3]) O) ((J.up f).rd.sub (M:=[2,3]) O)).sub (M:=[0,2,3]) O) ((Z.ul aj).sub (M:=[0,2,3]) O)) ?_))))
    rintro an L a9 Y N ⟨_,rfl,ba⟩
    have b2:=aj.n N
    refine Nv L O (sr (Ni O (ssr (mv L O (Lw.ln an ba.rd O (Lw.sub O (Ni O (Cw.block ?_))))))))
    obtain⟨b3,b4,Y⟩:=zdY Y
    refine Cw.loop 58 89 [2,8,9] (fun m l w=> ∃ B k C P,CW.w P=w/\Le [] a9 P/\l=[vB B,vI k,vI C]/\Vm.zhH a aa an b3 m B k C=some r) _ ⟨false,0,w64 ((an.length:Int)-1),a9,O,Le.refl _ _,O,Y⟩ ?_
    rintro(_ |ct) _ _ σ ⟨B,k,C,P,rfl,x,rfl,Y⟩
    ·cases Y
    unfold Vm.zhH at Y
    have bb:=b2.n x
    have bc:=((ac.up f).up N).up x
    refine ssr (mi O (Lw.ge O (nl (cn Y (fun Y=>?_) fun Y=>?_))))
    ·refine sk ?_
     obtain⟨b5,b7,Y⟩:=zdY Y
     refine Cw.join 62 89 [2,8] (fun l w=> ∃ Q S T,CW.w T=w/\Le [] P T/\l=[vB Q,vI S]/\b5 Q S=some r) ?_ ?_
     ·rintro _ _ σ ⟨Q,S,T,rfl,b8,rfl,Y⟩
      rw[b7]at Y
      exact rg (mi O (Lw.sub O (Ni O ((agm) ⟨Q,S,w64 (C-1),T,O,(x.j b8).w,O,Y⟩))))
     ·refine Cw.block (Cw.seq (Cw.draw [] [(0,0),(1,1),(2,0),(3,0),(4,0),(5,1),(6,0),(7,0),(8,1),(9,0),(10,0)] mixed (by kernel_rfl) fun be h=>?_))
      have b9:=bb.n h
      have ao:=((ak.up N).up x).up h
      have U:=(ba.up x).up h
      refine Dfl (((am.up N).up x).up h) O O O (Dv L O (Di O ?_))
      obtain⟨cu,ap,Y⟩:=ob Y
      refine Mw.p O O (fun _=>R.ix (α:=Int) U.rd ap O O O) (Mw.q O O (fun _ c=>R.ld O O (zaW (U.rd.at_ ap).1 O (U.rd.at_ ap).int c)) ?_)
      obtain⟨cv,aq,Y⟩:=ob Y
      refine Mw.p O O (fun _=>R.ix (α:=Commit) ao.rd aq O O O) (Df O (Mw.q O O (fun _ c=>R.ld O O (zaW (Commit.at1 (ao.rd.at_ aq)).1 O (Commit.at1 (ao.rd.at_ aq)).str c)) (Ds O (Mw.p O O (fun _=>R.seq O O) (Mw.nil (cn Y (fun Y=>?_) fun Y=>?_))))))
      ·refine Cw.seq ?_
       obtain⟨cb,cc,Y⟩:=zdY Y
       refine Cw.join 73 87 [87] (fun l w=> ∃ ar V,CW.w V=w/\Le [] be V/\l=[vB ar]/\cb ar=some r) ?_ ?_
       ·rintro _ _ σ ⟨ar,V,rfl,bg,rfl,Y⟩
        rw[cc]at Y
        have cd:=b9.n bg
        refine cn Y (fun Y=>?_) fun Y=>?_
        ·exact sr (Nb O (.ret (rt Y cd)))
        ·exact sk (rg (mi O (Lw.add O (Ni O ((ag) ⟨B,w64 (k+1),V,O,(h.j bg).w,O,Y⟩)))))
       ·refine Cw.draw [] [(0,0),(1,0),(2,0),(3,0),(4,0),(5,0),(6,0),(7,0),(8,1),(9,0),(10,0),(11,0),(12,1),(13,0),(14,0)] mixed (by kernel_rfl) fun bh W=>?_
        have X:=(bc.up h).up W
        have au:=U.up W
        refine Di O (Dv i O (Mw.p O O (fun _=>zp7 (xs:=aa) X.rd O) (Mw.p O O (fun _=>R.ge O O) (Db O (bs Y (fun b Y=>?_) fun b Y=>?_)))))
        ·exact dps 9 b O (Mw.p O O (fun _=>R.pk b O (v:=vB true) O) (Mw.nil ((ag) ⟨true,bh,O,W,O,Y⟩)))
        ·refine Wp b O (fun _=>R.mv (v:=i) O) (Wp b O (fun _=>R.mv (v:=vI k) O) ?_)
         obtain⟨bi,av,Y⟩:=ob Y
         refine Wp b O (fun _=>R.ix (α:=Int) X.rd av O O O) (Wq b O (fun _ c=>R.ld O O (zaW (X.rd.at_ av).1 O (X.rd.at_ av).int c)) (Wp b O (fun _=>R.mv (v:=L) O) (Wp b O (fun _=>R.mv (v:=vI C) O) ?_)))
         obtain⟨bj,aw,Y⟩:=ob Y
         exact Wp b O (fun _=>R.ix (α:=Int) au.rd aw O O O) (Wq b O (fun _ c=>R.ld O O (zaW (au.rd.at_ aw).1 O (au.rd.at_ aw).int c)) (Wp b O (fun _=>R.ne O O) (Mw.p O O (fun _=>R.pk b O (v:=vB ((bi:Int) !=(bj:Int))) O) (Mw.nil ((ag) ⟨((bi:Int) !=(bj:Int)),bh,O,W,O,Y⟩)))))
      ·exact sk ((ag) ⟨B,k,be,O,h,O,Y⟩)
    ·refine Cw.exit ?_
     rw[b4]at Y
     exact sr (mi O (mv i O (Lw.ln aa bc.rd O (Lw.eq O (Nb O (.ret (rt Y bb)))))))
  ·refine rg (mv i O (la af (mi O (ms O (cr Y (fun _=>p65 (K:=[2,3]) (k0:=8) (x0:=(Vm.Repo.mk a.1.Commits a.1.Heads)) (Repo.rd (K:=[2,3]) a.1.Commits a.1.Heads (ae.rd.sub (M:=[2,3]) O) (J.rd.sub (M:=[2,3]) O))) ?_)))))
   rintro cw cx cy Y d ⟨_,rfl,ce⟩
   have cf:=a6.n d
   refine ca Y (fun _=>p47 (K:=[5,8]) ((ac.up d).rd.sub (M:=[5,8]) O) (ce.rd.sub (M:=[5,8]) O)) fun cz cg Y e=>?_
   have ch:=cf.n e
   have bk:=(ae.up d).up e
   have bl:=(af.up d).up e
   refine Lw.r O (R.not O) (mb O (bs Y (fun D Y=>?_) fun D Y=>?_))
   ·exact psk 3 D O (Pb D O (mb O (psk 2 O O (Pb O O (mb O (psk 5 O O (Pb O O (nl ((ag) ⟨true,cg,O,(d.j e).w,O,Y⟩)))))))))
   ·refine wak 3 D (la bl (ca Y (fun _=>p43 (K:=[0,2,3]) (x0:=(Vm.Repo.mk a.1.Commits a.1.Heads)) ((Repo.rd (K:=[2,3]) a.1.Commits a.1.Heads (bk.rd.sub (M:=[2,3]) O) (((J.up d).up e).rd.sub (M:=[2,3]) O)).sub (M:=[0,2,3]) O) ((Z.ul ch).sub (M:=[0,2,3]) O)) fun c0 ax Y E=>Lw.r O (R.not O) (Pb D O (mb O (bs Y (fun F Y=>?_) fun F Y=>?_)))))
    ·exact psk 2 F O (Pb F O (mb O (psk 5 O O (Pb O O (nl ((ag) ⟨true,ax,O,((d.j e).j E).w,O,Y⟩))))))
    ·refine wak 2 F (mi O (Lw.lt O (Pb F O (mb O (bs Y (fun G Y=>?_) fun G Y=>?_)))))
     ·exact psk 5 G O (Pb G O (nl ((ag) ⟨true,ax,O,((d.j e).j E).w,O,Y⟩)))
     ·exact wak 5 G (mi O (fl (bl.up E) O (Lw.ln a.1.Commits (bk.up E).rd O (Lw.ge O (Pb G O (nl ((ag) ⟨decide (a.1.Commits.length<=(a.2.1:Int)),ax,O,((d.j e).j E).w,O,Y⟩)))))))
theorem p14 {x0 a r}(b:Rd W K [a] x0)(d:Gl 0 W K)(Y:Vm.zlo x0=some r):Q1 14 [a] W [] fun W' v=>v=vB r:=
 (c14 (b.view _) (d.view _) Y).ad (fk 0) fun _ _ e=>e
end Go.Sx
