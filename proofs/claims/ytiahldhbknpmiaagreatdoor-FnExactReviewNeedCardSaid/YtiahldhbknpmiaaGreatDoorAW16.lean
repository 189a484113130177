/- Walks: each function answers as its model, printed by a program of ours. Conditions: the arguments read as they are given. -/
import Derived.Test.YtiahldhbknpmiaaGreatDoorATs
import Derived.Test.YtiahldhbknpmiaaGreatDoorAM7
import Derived.Test.YtiahldhbknpmiaaGreatDoorAW1
import Derived.Test.YtiahldhbknpmiaaGreatDoorAW14
import Derived.Test.YtiahldhbknpmiaaGreatDoorAW15
import Derived.Test.YtiahldhbknpmiaaGreatDoorAW2
import Derived.Test.YtiahldhbknpmiaaGreatDoorAE
namespace Go.Sx
open Go Go.Proofs Go.Vm Rp
set_option linter.unusedVariables false
set_option linter.unusedSimpArgs false
variable {W W0:CW}{K:List Nat}
theorem c30 {x0 I J x1 y x2 L r}(h0:Rd W0 [0] [I,J] x0)(N:Rd W0 [0] [y] x1)(h2:Rd W0 [0] [vS x2.Branch,vS x2.Into,vS x2.By,L] x2)(Y:Vm.zg2 x0 x1 x2=some r):Q0 30 [.agg [I,J].toArray,y, .agg [vS x2.Branch,vS x2.Into,vS x2.By,L].toArray] W0 fun Wf v=> ∃ P,v = .tuple [P,vB r.2].toArray/\Rd Wf [0] [P] r.1:=by
 unfold Vm.zg2 at Y
 obtain⟨a1,a3,Q,z,A⟩:=Repo.split h0
 simp only[List.cons.injEq,and_true,true_and]at Q
 obtain⟨rfl,rfl⟩:=Q
 obtain⟨a5,S,T⟩:=Review.split h2
 simp only[List.cons.injEq,and_true,true_and]at S
 obtain rfl:=S
 refine zaz.of Tryz.func30 O O O O (sr (bo 2 O fun g1 W1 l1 b1=>?_))
 have a2:=l1.o
 refine bo 3 O fun g3 W3 U V=>?_
 have B:=a2.n U
 have C:=b1.up U
 refine Gv (.slice none 0 0) O (Nb O (Cw.seq ?_))
 obtain⟨K8,an,Y⟩:=zbM Y
 refine Cw.join 8 34 [34] (fun l w=> ∃ D E,CW.w E=w/\Le [] W3 E/\l=[vB D]/\K8 D=some r) ?_ ?_
 ·rintro _ _ σ ⟨D,E,rfl,F,rfl,Y⟩
  rw[an]at Y
  have e:=B.n F
  refine cn Y (fun Y=>?_) fun Y=>?_
  ·refine sr (Gv (.slice none 0 0) O (Nb O ?_))
   cases Y
   exact Cw.ret (zp3 O O (Res.mk e ⟨.slice none 0 0,O,(rdN (K:=[0]))⟩))
  ·refine sk (sr (la (C.up F) (mv y O (la (V.up F) (cr Y (fun _=>p97 (Repo.rd (K:=[0]) x0.Commits x0.Heads (z.ul e) (A.ul e)) (N.ul e) (Review.rd (K:=[0]) x2.Branch x2.Into x2.By x2.Yes (T.ul e))) ?_)))))
   rintro ba W bb Y ao ⟨_,rfl,ap⟩
   have aq:=ap.sub (M:=[0]) O
   have ar:=e.n ao
   refine Gv W O (Nb O ?_)
   cases Y
   exact Cw.ret (zp3 O O (Res.mk ar ⟨W,O,aq⟩))
 ·refine rg (la C (ca Y (fun _=>p68 (Repo.rd (K:=[0]) x0.Commits x0.Heads (z.ul B) (A.ul B))) fun bc au Y a=>?_))
  have X:=B.n a
  refine Lw.r O (R.not O) (mb O (bs Y (fun f Y=>?_) fun f Y=>?_))
  ·exact psk 3 f O (Pb f O (mb O (psk 3 O O (Pb O O (mb O (psk 5 O O (Pb O O (mb O (psk 5 O O (Pb O O (nl ((ag) ⟨true,au,O,a,O,Y⟩))))))))))))
  ·refine wak 3 f (mv y O (ca Y (fun _=>p95 (N.ul X)) fun be av Y b=>?_))
   have Z:=X.n b
   have G:=(V.up a).up b
   refine Lw.r O (R.not O) (Pb f O (mb O (bs Y (fun h Y=>?_) fun h Y=>?_)))
   ·exact psk 3 h O (Pb h O (mb O (psk 5 O O (Pb O O (mb O (psk 5 O O (Pb O O (nl ((ag) ⟨true,av,O,(a.j b).w,O,Y⟩)))))))))
   ·refine wak 3 h (la G (ca Y (fun _=>p96 (Review.rd (K:=[0]) x2.Branch x2.Into x2.By x2.Yes (T.ul Z))) fun bg aw Y d=>?_))
    have H:=Z.n d
    have aa:=((C.up a).up b).up d
    refine Lw.r O (R.not O) (Pb h O (mb O (bs Y (fun i Y=>?_) fun i Y=>?_)))
    ·exact psk 5 i O (Pb i O (mb O (psk 5 O O (Pb O O (nl ((ag) ⟨true,aw,O,((a.j b).j d).w,O,Y⟩))))))
    ·refine wak 5 i (la aa (fl (G.up d) O (ca Y (fun _=>p69 (Repo.rd (K:=[0]) x0.Commits x0.Heads (z.ul H) (A.ul H))) fun bh ax Y k=>?_)))
     have ac:=H.n k
     refine Lw.lt O (Pb i O (mb O (bs Y (fun x Y=>?_) fun x Y=>?_)))
     ·exact psk 5 x O (Pb x O (nl ((ag) ⟨true,ax,O,(((a.j b).j d).j k).w,O,Y⟩)))
     ·exact wak 5 x (la (aa.up k) (fl ((G.up d).up k) O (ca Y (fun _=>p69 (Repo.rd (K:=[0]) x0.Commits x0.Heads (z.ul ac) (A.ul ac))) fun ay az Y a0=>Lw.lt O (Pb x O (nl ((ag) ⟨decide (ay< (0:Int)),az,O,((((a.j b).j d).j k).j a0).w,O,Y⟩))))))
theorem p30 {x0 b d x1 f x2 h r}(i:Rd W K [b,d] x0)(k:Rd W K [f] x1)(x:Rd W K [vS x2.Branch,vS x2.Into,vS x2.By,h] x2)(Y:Vm.zg2 x0 x1 x2=some r):Q1 30 [.agg [b,d].toArray,f, .agg [vS x2.Branch,vS x2.Into,vS x2.By,h].toArray] W [] fun W' v=> ∃ a,v = .tuple [a,vB r.2].toArray/\Rd W' (0::K) [a] r.1:=
 (c30 (i.view _) (k.view _) (x.view _) Y).ad (fk 0) fun _ _ ⟨a,e,y⟩=>⟨a,e,y.back O⟩
theorem c100 {x0 i r}(f:Rd W0 [0] [i] x0)(U:Gl 0 W0 [0])(Y:Vm.zhA x0=some r):Q0 100 [i] W0 fun Wf v=>v=vB r:=by
 unfold Vm.zhA at Y
 refine zaz.of Tryz.func100 O O O O (sr (Nb O (ssr (mv i O (Lw.ln x0 f O (Lw.gt O (nl (cn Y (fun Y=>?_) fun Y=>?_))))))))
 ·exact sr (Nb O (.ret (rt Y (Le.refl _ _))))
 ·refine sk (ssr (mv i O (Lw.ln x0 f O (mi O (nl (Cw.block ?_))))))
  obtain⟨V,W,Y⟩:=zbM Y
  refine Cw.loop 10 40 [2,3,4,10] (fun m l w=> ∃ x d J K D,CW.w D=w/\Le [2] W0 D/\l=[vB x,J,K,vI d]/\Vm.ze2 x0 V m x d=some r) _ ⟨false,0,undef,undef,W0,O,Le.refl _ _,O,Y⟩ ?_
  rintro(_ |m8) _ _ σ ⟨x,d,J,K,D,rfl,L,rfl,Y⟩
  ·cases Y
  unfold Vm.ze2 at Y
  have y:=L.s
  refine sr (Lw.lt O (nl (Cw.seq (cn Y (fun Y=>?_) fun Y=>?_))))
  ·refine sk (Cw.seq (Cw.block (sr (mi O ?_))))
   obtain⟨k,M,Y⟩:=ob Y
   refine Lw.r O (R.ix (α:=Owner) (f.ul y) M O O O) ?_
   obtain⟨x14,c15,_,r16⟩:=((f.ul y).at_ M).cells
   obtain rfl:=Owner.split r16
   refine Lw.r O (R.lda c15 O O) (al 2 [vS ([]:Str),vS ([]:Str)] fun X ap N Z=>?_)
   have aa:=y.n N
   refine Gi O (sta Z (zaa O (zaa O za0)) fun ac P ae=>?_)
   have Q:=aa.t P
   refine nl ?_
   obtain⟨af,ah,Y⟩:=zbM Y
   refine Cw.join 15 39 [39] (fun l w=> ∃ E z,CW.w z=w/\Le [] ac z/\l=[vB E]/\af E=some r) ?_ ?_
   ·rintro _ _ σ ⟨E,z,rfl,S,rfl,Y⟩
    rw[ah]at Y
    have ai:=Q.n S
    refine cn Y (fun Y=>?_) fun Y=>?_
    ·exact sr (Nb O (.ret (rt Y ai)))
    ·exact sk (rg (Lw.add O (mi O (nl ((agm) ⟨x,w64 (d+1),vI d,ptr (bx X),z,O,(((L.j N).j P).j S).w,O,Y⟩)))))
   ·refine Cw.draw [] [(0,0),(1,1),(2,2),(3,0),(4,0),(5,0),(6,1),(7,2),(8,0),(9,0),(10,0),(11,0),(12,0),(13,0),(14,0),(15,0),(16,0),(17,0),(18,0),(19,1),(20,0),(21,1),(22,0),(23,0),(24,0)] mixed (by kernel_rfl) fun aq h=>?_
    have A:=Q.n h
    have F:=ae.up h
    refine Dfl F O O O (Dc Y (Le.refl _ _) (fun _=>p162 (U.ul A)) O ?_)
    rintro ar _ aj Y B rfl ak
    refine Mw.p O O (fun _=>R.not O) (Db O (bs Y (fun e Y=>?_) fun e Y=>?_))
    ·exact dps 4 e O (Mw.p O O (fun _=>R.pk e O (v:=vB true) O) (Db O (dps 3 O O (dpu 9 O (dps 1 O O (Mw.p O O (fun _=>R.pk O O (v:=vB true) O) (Mw.nil ((ag) ⟨true,aj,O,(h.j B).w,O,Y⟩))))))))
    ·refine Wp e O (fun _=>R.fa O) (Wq e O (fun _ c=>R.ld (v:=vS k.Who) O O (F.clc O O c)) ?_)
     obtain⟨am,an,Y⟩:=ob Y
     refine Wt e O (T.call O (p113 an)) ?_
     rintro _ _ ⟨G,rfl,C,rfl⟩
     refine mc ak C fun au=>Wp e O (fun _=>R.not O) (Mw.p O O (fun _=>R.pk e O (v:=vB (!am)) O) (Db O (bs Y (fun b Y=>?_) fun b Y=>?_)))
     ·exact dps 3 b O (dpu 9 O (dps 1 b O (Mw.p O O (fun _=>R.pk b O (v:=vB true) O) (Mw.nil ((ag) ⟨true,G,O,((h.j B).j C).w,O,Y⟩)))))
     ·refine Wp b O (fun _=>R.mv (v:=vI d) O) (Wp b O (fun _=>R.gt O O) (Wp b O (fun _=>R.mv (v:=vB (decide (0< (d:Int)))) O) (bs Y (fun a Y=>?_) fun a Y=>?_)))
      ·refine Wp a O (fun _=>R.mv (v:=i) O) (Wp a O (fun _=>R.mv (v:=vI d) O) (Wp a O (fun _=>R.sub O O) ?_))
       obtain⟨H,I,Y⟩:=ob Y
       exact Wp a O (fun _=>R.ix (α:=Owner) (f.ul A) I O O O) (Wp a O (fun _=>R.fa O) (Wq a O (fun _ c=>R.ld O O (zaB (Owner.at0 ((f.ul A).at_ I)).1 O (Owner.at0 ((f.ul A).at_ I)).str c)) (Wp a O (fun _=>R.fa O) (Wq a O (fun _ c=>R.ld (v:=vS k.Path) O O (F.clc O O c)) (Wp a O (fun _=>R.sge O O) (Wp b O (fun _=>R.pk a O (v:=vB (!Op.bytesLess H.Path k.Path)) O) (Mw.p O O (fun _=>R.pk b O (v:=vB (!Op.bytesLess H.Path k.Path)) O) (Mw.nil ((ag) ⟨(!Op.bytesLess H.Path k.Path),G,O,((h.j B).j C).w,O,Y⟩)))))))))
      ·exact dps 9 a O (Wp b O (fun _=>R.pk a O (v:=vB false) O) (Mw.p O O (fun _=>R.pk b O (v:=vB false) O) (Mw.nil ((ag) ⟨false,G,O,((h.j B).j C).w,O,Y⟩))))
  ·refine Cw.exit ?_
   rw[W]at Y
   exact sr (Nb O (.ret (rt Y y)))
theorem p100 {x0 a r}(b:Rd W K [a] x0)(d:Gl 0 W K)(Y:Vm.zhA x0=some r):Q1 100 [a] W [] fun W' v=>v=vB r:=
 (c100 (b.view _) (d.view _) Y).ad (fk 0) fun _ _ e=>e
theorem c163 {x0 h r}(b:Rd W0 [0] [h] x0)(Y:Vm.zjc x0=some r):Q0 163 [h] W0 fun Wf v=>v=vB r:=by
 unfold Vm.zjc at Y
 refine zaz.of Tryz.func163 O O O O (sr (Nb O (ssr (mv h O (Lw.ln x0 b O (mi O (nl (Cw.block ?_))))))))
 obtain⟨J,K,Y⟩:=zbM Y
 refine Cw.loop 7 28 [2,3,4,7] (fun m l w=> ∃ i d B C k,CW.w k=w/\Le [] W0 k/\l=[vB i,B,C,vI d]/\Vm.zfx x0 J m i d=some r) _ ⟨false,0,undef,undef,W0,O,Le.refl _ _,O,Y⟩ ?_
 rintro(_ |Q) _ _ σ ⟨i,d,B,C,k,rfl,D,rfl,Y⟩
 ·cases Y
 unfold Vm.zfx at Y
 have e:=D.o
 refine sr (Lw.lt O (nl (Cw.seq (cn Y (fun Y=>?_) fun Y=>?_))))
 ·refine sk (Cw.seq (Cw.block (sr (mi O ?_))))
  obtain⟨E,F,Y⟩:=ob Y
  refine Lw.r O (R.ix (α:=Str) (b.ul e) F O O O) (Lw.r O (R.ld O O ((b.ul e).at_ F).str) (Gi O (Ns O ?_)))
  obtain⟨L,M,Y⟩:=zbM Y
  refine Cw.join 12 27 [27] (fun l w=> ∃ z x,CW.w x=w/\Le [] k x/\l=[vB z]/\L z=some r) ?_ ?_
  ·rintro _ _ σ ⟨z,x,rfl,G,rfl,Y⟩
   rw[M]at Y
   have N:=e.n G
   refine cn Y (fun Y=>?_) fun Y=>?_
   ·exact sr (Nb O (.ret (rt Y N)))
   ·exact sk (rg (Lw.add O (mi O (nl ((agm) ⟨i,w64 (d+1),vI d,vS E,x,O,(D.j G).w,O,Y⟩)))))
  ·refine rg (ms O (ca Y (fun _=>p113) fun S A Y y=>?_))
   have H:=e.n y
   refine Lw.r O (R.not O) (mb O (bs Y (fun a Y=>?_) fun a Y=>?_))
   ·exact psk 3 a O (puk 7 O (psk 1 a O (Pb a O (nl ((ag) ⟨true,A,O,y,O,Y⟩)))))
   ·refine wak 3 a (mi O (Lw.gt O (mb O (bs Y (fun f Y=>?_) fun f Y=>?_))))
    ·refine wak 7 f (mv h O (mi O (Lw.sub O ?_)))
     obtain⟨P,I,Y⟩:=ob Y
     exact Lw.r O (R.ix (α:=Str) (b.ul H) I O O O) (Lw.r O (R.ld O O ((b.ul H).at_ I).str) (ms O (Lw.r O (R.sge O O) (wak 1 a (Pb f O (Pb a O (nl ((ag) ⟨(!Op.bytesLess P E),A,O,y,O,Y⟩))))))))
    ·exact psk 7 f O (wak 1 a (Pb f O (Pb a O (nl ((ag) ⟨false,A,O,y,O,Y⟩)))))
 ·refine Cw.exit ?_
  rw[K]at Y
  exact sr (Nb O (.ret (rt Y e)))
theorem p163 {x0 a r}(b:Rd W K [a] x0)(Y:Vm.zjc x0=some r):Q1 163 [a] W [] fun W' v=>v=vB r:=
 (c163 (b.view _) Y).ad (fk 0) fun _ _ e=>e
theorem c101 {x0 B r}(H:Rd W0 [0] [vS x0.Branch,vS x0.Into,vS x0.By,B] x0)(Y:Vm.ziF x0=some r):Q0 101 [.agg [vS x0.Branch,vS x0.Into,vS x0.By,B].toArray] W0 fun Wf v=>v=vB r:=by
 unfold Vm.ziF at Y
 obtain⟨W,C,D⟩:=Review.split H
 simp only[List.cons.injEq,and_true,true_and]at C
 obtain rfl:=C
 refine zaz.of Tryz.func101 O O O O (sr (bo 2 O fun X I J x=>?_))
 have E:=J.o
 refine Nb O ?_
 obtain⟨K,L,Y⟩:=zbM Y
 refine Cw.join 3 33 [2] (fun l w=> ∃ y z,CW.w z=w/\Le [] I z/\l=[vB y]/\K y=some r) ?_ ?_
 ·rintro _ _ σ ⟨y,z,rfl,M,rfl,Y⟩
  rw[L]at Y
  have N:=E.n M
  exact .ret (rt Y N)
 ·refine rg (fl x O (ca Y (fun _=>p113) fun Z P Y l10=>?_))
  have Q:=E.n l10
  refine mb O (bs Y (fun d Y=>?_) fun d Y=>?_)
  ·refine wak 3 d (fl (x.up l10) O (ca Y (fun _=>p113) fun aa R Y a=>?_))
   have S:=Q.n a
   have F:=(x.up l10).up a
   refine Pb d O (mb O (bs Y (fun e Y=>?_) fun e Y=>?_))
   ·refine wak 3 e (fl F O (ca Y (fun _=>p113) fun ac A Y b=>?_))
    have G:=S.n b
    have k:=F.up b
    refine Pb e O (mb O (bs Y (fun f Y=>?_) fun f Y=>?_))
    ·refine wak 5 f (fl k O (fl k O (Lw.sne O (Pb f O (mb O (bs Y (fun h Y=>?_) fun h Y=>?_))))))
     ·refine wak 4 h (fl k O (Lw.ln x0.Yes (D.ul G) O (Lw.le O (Pb h O (mb O (bs Y (fun i Y=>?_) fun i Y=>?_))))))
      ·exact wak 3 i (fl k O (ca Y (fun _=>p163 (D.ul G)) fun T U Y V=>Pb i O (Nb O ((ag) ⟨T,U,O,(((l10.j a).j b).j V).w,O,Y⟩))))
      ·exact psk 3 i O (Pb i O (Nb O ((ag) ⟨false,A,O,((l10.j a).j b).w,O,Y⟩)))
     ·exact psk 4 h O (Pb h O (mb O (psk 3 O O (Pb O O (Nb O ((ag) ⟨false,A,O,((l10.j a).j b).w,O,Y⟩))))))
    ·exact psk 5 f O (Pb f O (mb O (psk 4 O O (Pb O O (mb O (psk 3 O O (Pb O O (Nb O ((ag) ⟨false,A,O,((l10.j a).j b).w,O,Y⟩)))))))))
   ·exact psk 3 e O (Pb e O (mb O (psk 5 O O (Pb O O (mb O (psk 4 O O (Pb O O (mb O (psk 3 O O (Pb O O (Nb O ((ag) ⟨false,R,O,(l10.j a).w,O,Y⟩))))))))))))
  ·exact psk 3 d O (Pb d O (mb O (psk 3 O O (Pb O O (mb O (psk 5 O O (Pb O O (mb O (psk 4 O O (Pb O O (mb O (psk 3 O O (Pb O O (Nb O ((ag) ⟨false,P,O,l10,O,Y⟩)))))))))))))))
theorem p101 {x0 a r}(b:Rd W K [vS x0.Branch,vS x0.Into,vS x0.By,a] x0)(Y:Vm.ziF x0=some r):Q1 101 [.agg [vS x0.Branch,vS x0.Into,vS x0.By,a].toArray] W [] fun W' v=>v=vB r:=
 (c101 (b.view _) Y).ad (fk 0) fun _ _ e=>e
theorem c167 {x0 A x1 f r}(V:Rd W0 [0] [A] x0)(B:Rd W0 [0] [f] x1)(Y:Vm.zmi x0 x1=some r):Q0 167 [A,f] W0 fun Wf v=> ∃ u0,v=u0/\OwS Wf LL [] [u0] r:=by
 unfold Vm.zmi at Y
 refine zaz.of Tryz.func167 O O O O (sr (Nv (.slice none 0 0) O (sr (mv A O (mv f O (cr Y (fun _=>p199 (k0:=2) V B) ?_))))))
 rintro z1 b3 W3 Y l3 ⟨_,rfl,az⟩
 have a4:=l3.o
 refine mv f O (Lw.ln x1 (B.ul a4) O (Lw.t O (T.bs 3 [vI (x1.length:Int)] (cs:=[vI (x1.length:Int)]) O O (bsv O)) ?_))
 rintro _ _ ⟨g6,W6,rfl,rfl,l6,b6⟩
 have a7:=a4.n l6
 obtain⟨q9,a2,Y⟩:=ob Y
 refine Lw.t O (T.app1S (α:=Int) (K':=[]) (az.up l6) b6 (rdI _) O O a2) ?_
 rintro ak _ ⟨am,rfl,a3,W⟩
 have a5:=a7.t a3
 refine Nv ak O (sr (Nv (.slice none 0 0) O (sr (Gi O (Ni O (ssr (mv ak O (Lw.ln q9 W.rd O (mi O (nl (Cw.block ?_)))))))))))
 obtain⟨a6,a8,Y⟩:=zbM Y
 refine Cw.loop 20 54 [6,7,8,9,10,20] (fun m l w=> ∃ h b i e d an ao a,CW.w a=w/\Le [4,5,6] am a/\l=[d,vI b,vI i,an,ao,vI e]/\Ow a 4 [] [d] h/\Vm.zhK x0 x1 q9 a6 m h b i e=some r) _ ⟨([]:List Hunk),0,0,0, .slice none 0 0,undef,undef,am,O,Le.refl _ _,O,owN 4 [],Y⟩ ?_
 rintro(_ |b8) _ _ σ ⟨h,b,i,e,d,an,ao,a,rfl,C,rfl,D,Y⟩
 ·cases Y
 unfold Vm.zhK at Y
 have ap:=a5.t C
 refine sr (Lw.lt O (nl (Cw.seq (cn Y (fun Y=>?_) fun Y=>?_))))
 ·refine sk ?_
  obtain⟨a9,ba,Y⟩:=zbM Y
  refine Cw.join 22 53 [6,7,8,9,10] (fun l w=> ∃ E F G H X Z k,CW.w k=w/\Le [4,5,6] a k/\l=[H,vI F,vI G,X,Z]/\Ow k 4 [] [H] E/\a9 E F G=some r) ?_ ?_
  ·rintro _ _ σ ⟨E,F,G,H,X,Z,k,rfl,bb,rfl,bc,Y⟩
   rw[ba]at Y
   exact rg (Lw.add O (mi O (nl ((agm) ⟨E,F,G,w64 (e+1),H,X,Z,k,O,(C.j bb).w,O,bc,Y⟩))))
  ·refine Cw.block (sr (mi O ?_))
   obtain⟨I,aq,Y⟩:=ob Y
   refine Lw.r O (R.ix (α:=Int) (W.up C).rd aq O O O) (Lw.r O (R.ld O O ((W.up C).rd.at_ aq).int) (Gi O (Ni O (ssr (mi O (Lw.lt O (nl (cn Y (fun Y=>?_) fun Y=>?_))))))))
   ·exact Cw.exit ((ag) ⟨h,b,i,d,vI e,vI I,a,O,Le.refl _ _,O,D,Y⟩)
   ·refine sk ?_
    obtain⟨be,bg,Y⟩:=zbM Y
    refine Cw.join 27 49 [6] (fun l w=> ∃ K L x,CW.w x=w/\Le [4,5,6] a x/\l=[L]/\Ow x 4 [] [L] K/\be K=some r) ?_ ?_
    ·rintro _ _ σ ⟨K,L,x,rfl,bh,rfl,bi,Y⟩
     rw[bg]at Y
     exact rg (mi O (Lw.add O (mi O (Lw.add O (Gi O (Ni O ((ag) ⟨K,w64 (e+1),w64 (I+1),L,vI e,vI I,x,O,bh,O,bi,Y⟩)))))))
    ·obtain⟨bj,bk,Y⟩:=zbM Y
     refine Cw.join 27 34 [34] (fun l w=> ∃ aa M,CW.w M=w/\Le [] a M/\l=[vB aa]/\bj aa=some r) ?_ ?_
     ·rintro _ _ σ ⟨aa,M,rfl,y,rfl,Y⟩
      rw[bk]at Y
      have bl:=ap.n y
      refine cn Y (fun Y=>?_) fun Y=>?_
      ·refine Cw.draw [] [(0,0),(1,0),(2,0),(3,0),(4,0),(5,0),(7,0),(8,0),(9,0),(10,0),(6,3),(11,3),(12,0),(13,3),(14,3),(15,0)] mixed (by kernel_rfl) fun b9 ac=>?_
       have N:=bl.n ac
       refine Dv d O (Di O (Dv A O (Di O (Di O ?_))))
       obtain⟨cb,ar,Y⟩:=ob Y
       have r69:=(V.ul N).cutV ar
       refine Mw.p O O (fun _=>R.sl (V.ul N) ar O (.inr O) (.inr O)) (Dv f O (Di O (Di O ?_)))
       obtain⟨cc,au,Y⟩:=ob Y
       have r74:=(B.ul N).cutV au
       refine Mw.p O O (fun _=>R.sl (B.ul N) au O (.inr O) (.inr O)) ?_
       obtain⟨bm,bn,Y⟩:=ob Y
       refine Mw.l O O (T.call O (p168 (k0:=5) r69 bn)) ?_
       rintro P _ ⟨cd,rfl,ae,⟨_,rfl,av⟩⟩
       have bp:=ae.o
       obtain⟨bq,br,Y⟩:=ob Y
       refine Mw.l O O (T.call O (p168 (k0:=6) (r74.ul bp) br)) ?_
       rintro Q _ ⟨ce,rfl,S,⟨_,rfl,aw⟩⟩
       refine Mw.p O O (fun _=>R.bd (zs:=[vI 0, .slice none 0 0, .slice none 0 0]) (cs:=[vI b,P,Q]) [(0,vI b),(1,P),(2,Q)] O O O (zbc O O (zbc (av.up S).oc O (zbc aw.oc O ze4)))) (Mw.l O O (T.bs 7 [.agg [vI b,P,Q].toArray] (cs:=[vI b,P,Q]) O O (bsA O)) ?_)
       rintro _ _ ⟨cf,cg,rfl,rfl,U,bu⟩
       obtain⟨bv,bw,Y⟩:=ob Y
       refine Mw.l O O (T.app1 (α:=Hunk) (J:=[5,6]) (K':=[]) (((((D.up y).up ac).up ae).up S).up U) bu (Hunk.own b bm bq ((av.up S).up U).s (aw.up U).s) O O bw) ?_
       rintro ax _ ⟨bz,rfl,b0,b1⟩
       exact Hv ax O (Mw.nil ((ag) ⟨bv,ax,bz,O,(((((y.j ac).j ae).j S).j U).j b0).w,O,b1,Y⟩))
      ·exact sk ((ag) ⟨h,d,M,O,y.w,O,(D.up y),Y⟩)
     ·refine rg (mi O (mi O (Lw.gt O (mb O (bs Y (fun z Y=>?_) fun z Y=>?_)))))
      ·exact psk 3 z O (Pb z O (nl ((ag) ⟨true,a,O,Le.refl _ _,O,Y⟩)))
      ·exact wak 3 z (mi O (mi O (Lw.gt O (Pb z O (nl ((ag) ⟨decide (i< (I:Int)),a,O,Le.refl _ _,O,Y⟩))))))
 ·refine Cw.exit ?_
  rw[a8]at Y
  refine sr (mv d O (Nv d O ?_))
  cases Y
  exact Cw.ret (zkN O (Res.mk ap ⟨d,O,D.s.sub O O⟩))
theorem p167 {x0 b x1 d k0 r}(f:Rd W K [b] x0)(h:Rd W K [d] x1)(Y:Vm.zmi x0 x1=some r):Q1 167 [b,d] W [] fun W' v=> ∃ a,v=a/\Ow W' k0 [] [a] r:=
 (c167 (f.view _) (h.view _) Y).ad (fk k0) fun _ _ ⟨a,e,i⟩=>⟨a,e,i.back (ziQ _)⟩
theorem c171 {x0 b x1 r}(h:Rd W0 [0] [b] x0)(Y:Vm.zc7 x0 x1=some r):Q0 171 [b,vS x1] W0 fun Wf v=>v=vI r:=by
 unfold Vm.zc7 at Y
 refine zaz.of Tryz.func171 O O O O (sr (Ni O (ssr (mv b O (Lw.ln x0 h O (mi O (nl (Cw.block ?_))))))))
 obtain⟨y,z,Y⟩:=zbM Y
 refine Cw.loop 8 18 [4,5,8] (fun m l w=> ∃ d a i e,CW.w e=w/\Le [] W0 e/\l=[vI d,i,vI a]/\Vm.zbd x0 x1 y m d a=some r) _ ⟨0,0,undef,W0,O,Le.refl _ _,O,Y⟩ ?_
 rintro(_ |A) _ _ σ ⟨d,a,i,e,rfl,k,rfl,Y⟩
 ·cases Y
 unfold Vm.zbd at Y
 have f:=k.o
 refine sr (Lw.lt O (nl (Cw.seq (cn Y (fun Y=>?_) fun Y=>?_))))
 ·refine sk (Cw.seq (Cw.block (sr (mi O (Ni O (sr (ms O (mv b O (mi O ?_)))))))))
  obtain⟨B,x,Y⟩:=ob Y
  refine Lw.r O (R.ix (α:=Str) (h.ul f) x O O O) (Lw.r O (R.ld O O ((h.ul f).at_ x).str) (Lw.seq O (nl (cn Y (fun Y=>?_) fun Y=>?_))))
  ·exact sr (mi O (Ni O (.ret (rt Y f))))
  ·exact sk (rg (Lw.add O (mi O (nl ((agm) ⟨d,w64 (a+1),vI a,e,O,k,O,Y⟩)))))
 ·refine Cw.exit ?_
  rw[z]at Y
  exact sr (Ni O (.ret (rt Y f)))
theorem p171 {x0 a x1 r}(b:Rd W K [a] x0)(Y:Vm.zc7 x0 x1=some r):Q1 171 [a,vS x1] W [] fun W' v=>v=vI r:=
 (c171 (b.view _) Y).ad (fk 0) fun _ _ e=>e
theorem c107 {x0 a x1 r}(b:Rd W0 [0] [a] x0)(Y:Vm.zbz x0 x1=some r):Q0 107 [a,vS x1] W0 fun Wf v=>v=vB r:=by
 unfold Vm.zbz at Y
 refine zaz.of Tryz.func107 O O O O (sr (Nb O (sr (mv a O (ms O (ca Y (fun _=>p171 b) fun f h Y d=>?_))))))
 have e:=d.o
 exact Lw.ge O (Nb O (.ret (rt Y e)))
theorem p107 {x0 a x1 r}(b:Rd W K [a] x0)(Y:Vm.zbz x0 x1=some r):Q1 107 [a,vS x1] W [] fun W' v=>v=vB r:=
 (c107 (b.view _) Y).ad (fk 0) fun _ _ e=>e
theorem c103 {x0 ac x1 ae r}(h0:Rd W0 [0] [ac] x0)(G:Rd W0 [0] [ae] x1)(d6:Gl 0 W0 [0])(Y:Vm.zhL x0 x1=some r):Q0 103 [ac,ae] W0 fun Wf v=> ∃ u0,v=u0/\OwS Wf LL [] [u0] r:=by
 unfold Vm.zhL at Y
 refine zaz.of Tryz.func103 O O O O (sr (Nv (.slice none 0 0) O (Cw.seq ?_)))
 obtain⟨K3,fq,Y⟩:=zbM Y
 refine Cw.join 20 27 [27] (fun l w=> ∃ y1 W2,CW.w W2=w/\Le [] W0 W2/\l=[vB y1]/\K3 y1=some r) ?_ ?_
 ·rintro _ _ σ ⟨y1,W2,rfl,l2,rfl,Y⟩
  rw[fq]at Y
  have a4:=l2.o
  refine cn Y (fun Y=>?_) fun Y=>?_
  ·refine sr (Nv (.slice none 0 0) O ?_)
   cases Y
   exact Cw.ret (zkN O (Res.mk a4 ⟨.slice none 0 0,O,(znU []).sub O O⟩))
  ·refine sk (sr (Nv (.slice none 0 0) O (sr (Nv (.slice none 0 0) O (ssr (mv ac O (Lw.ln x0 (h0.ul a4) O (mi O (nl (Cw.block ?_))))))))))
   obtain⟨fs,ft,Y⟩:=zbM Y
   refine Cw.loop 30 111 [5,6,8,9,10,11,13,14,15,30] (fun m l w=> ∃ y7 H b2 I L d8 d9 ea b3 aw ax ay x,CW.w x=w/\Le [2,3,4,6,8,9,10,12,13] W2 x/\l=[I,L,d8,d9,ea,b3,aw,ax,ay,vI b2]/\Ow x 2 [] [I] y7/\Ow x 3 [] [L] H/\Vm.zeo x0 x1 fs m y7 H b2=some r) _ ⟨([]:List Change),([]:List Str),0, .slice none 0 0, .slice none 0 0,undef,undef,undef,undef,undef,undef,undef,W2,O,Le.refl _ _,O,owN 2 [],owN 3 [],Y⟩ ?_
   rintro(_ |im) _ _ σ ⟨y7,H,b2,I,L,d8,d9,ea,b3,aw,ax,ay,x,rfl,eb,rfl,o9,ed,Y⟩
   ·cases Y
   unfold Vm.zeo at Y
   have y:=a4.t eb
   refine sr (Lw.lt O (nl (Cw.seq (cn Y (fun Y=>?_) fun Y=>?_))))
   ·refine sk ?_
    obtain⟨fu,fv,Y⟩:=zbM Y
    refine Cw.join 32 110 [5,6,8,9,10,11,13,14,15] (fun l w=> ∃ b4 b5 b6 b7 cz c0 c1 c2 c3 c4 c5 ah,CW.w ah=w/\Le [2,3,4,6,8,9,10,12,13] x ah/\l=[b6,b7,cz,c0,c1,c2,c3,c4,c5]/\Ow ah 2 [] [b6] b4/\Ow ah 3 [] [b7] b5/\fu b4 b5=some r) ?_ ?_
    ·rintro _ _ σ ⟨b4,b5,b6,b7,cz,c0,c1,c2,c3,c4,c5,ah,rfl,fw,rfl,fx,fy,Y⟩
     rw[fv]at Y
     exact rg (Lw.add O (mi O (nl ((agm) ⟨b4,b5,w64 (b2+1),b6,b7,cz,c0,c1,c2,c3,c4,c5,ah,O,(eb.j fw).w,O,fx,fy,Y⟩))))
    ·refine Cw.block (sr ?_)
     obtain⟨a,ee,Y⟩:=ob Y
     refine Lw.r O (R.ix (α:=File) (h0.ul y) ee O O O) ?_
     obtain⟨x45,c46,_,r47⟩:=((h0.ul y).at_ ee).cells
     obtain⟨b8,rfl,r49⟩:=File.split r47
     refine Lw.r O (R.lda c46 O O) (al 4 [vS ([]:Str), .slice none 0 0] fun k io ai fz=>?_)
     have z:=ai.o
     refine sta fz (zaa O (zaa r49.oc za0)) fun ip aj c6=>?_
     have A:=aj.s
     refine nl (sr (mv ae O (fl c6 O (cr Y (fun _=>p165 (k0:=5) (G.ul ((y.trans z).trans A))) ?_))))
     rintro N _ ef Y B ⟨f,rfl,eg⟩
     have P:=B.o
     refine mv (.tuple [f,vB N.2].toArray) O (Lw.r O (R.ext (vs:=[f,vB N.2]) (v:=f) O O) (Lw.r O (R.ext (vs:=[f,vB N.2]) (v:=vB N.2) O O) (Gv f O (Nb O (Cw.block ?_)))))
     obtain⟨f0,f1,Y⟩:=zbM Y
     refine Cw.join 91 98 [91] (fun l w=> ∃ c7 b9,CW.w b9=w/\Le [] ef b9/\l=[vB c7]/\f0 c7=some r) ?_ ?_
     ·rintro _ _ σ ⟨c7,b9,rfl,C,rfl,Y⟩
      rw[f1]at Y
      have ak:=C.o
      have c8:=(((o9.up ai).up aj).up B).up C
      have c9:=(((ed.up ai).up aj).up B).up C
      have da:=(c6.up B).up C
      refine cn Y (fun Y=>?_) fun Y=>?_
      ·exact sk ((ag) ⟨y7,H,I,L,ptr (bx k),f,vB N.2,b3,aw,ax,ay,b9,O,(((ai.j aj).j B).j C).w,O,c8,c9,Y⟩)
      ·refine sr (mb O (Nb O (cn Y (fun Y=>?_) fun Y=>?_)))
       ·refine Cw.draw [2,6] [(0,0),(1,0),(2,1),(3,0),(4,1),(5,0),(6,2),(7,0),(8,2),(9,2),(10,0)] mixed (by kernel_rfl) fun iq Q=>?_
        have f2:=(((z.trans A).trans P).trans ak).n Q
        refine Dv I O (Dfl (da.up Q) O O O (Dfl (da.up Q) O O O (Dv f O (Dc Y (Le.refl _ _) (fun _=>p167 (K:=[0,5]) (k0:=6) ((r49.ul f2).sub (M:=[0,5]) O) (((eg.up C).up Q).rd.sub (M:=[0,5]) O)) O ?_))))
        rintro f3 cb ir Y db ⟨_,rfl,eh⟩ f4
        refine Mw.p O O (fun _=>R.bd (zs:=[vI 0,vS ([]:Str),vS ([]:Str), .slice none 0 0, .slice none 0 0]) (cs:=[vI 3,vS a.Path,vS ([]:Str), .slice none 0 0,cb]) [(0,vI 3),(1,vS a.Path),(4,cb)] O O O (zbc O O (zbc O O (zbc eh.oc O ze4)))) (Mw.t O O (T.bs 7 [.agg [vI 3,vS a.Path,vS ([]:Str), .slice none 0 0,cb].toArray] (cs:=[vI 3,vS a.Path,vS ([]:Str), .slice none 0 0,cb]) O O (bsA O)) ?_)
        rintro _ _ ⟨it,iu,rfl,rfl,az,f5⟩
        refine mc f4 az fun f6=>?_
        obtain⟨f7,f8,Y⟩:=ob Y
        refine Mw.t O O (T.app1 (α:=Change) (J:=[6]) (K':=[]) (((c8.up Q).up db).up az) f5 (Change.own 3 a.Path ([]:Str) ([]:List Str) f3 (znU []) (eh.up az).s) O O f8) ?_
        rintro ei _ ⟨f9,rfl,dc,ga⟩
        exact mc f6 dc fun iv=>Hv ei O (Mw.nil ((ag) ⟨f7,H,ei,L,ptr (bx k),f,vB N.2,b3,aw,ax,ay,f9,O,(((((((ai.j aj).j B).j C).j Q).j db).j az).j dc).w,O,ga,((((c9.up Q).up db).up az).up dc),Y⟩))
       ·refine Cw.seq ?_
        obtain⟨am,gb,Y⟩:=ob Y
        refine Cw.par [[],[0],[],[2],[2,3],[0,1,2,3,4],[],[0,1,2,3,4,5,6]] [[],[0],[],[2],[3],[1,4],[],[4,5,6]] [[],[],[],[],[],[],[],[9]] [[0],[1],[2],[3],[4],[4,5],[6],[4,6]] [[],[],[],[],[8],[],[9],[9]] [0,1,2,3,4,5,7] [9] [fun vs W=>(vs 0)=ptr ((bx k).add 0),fun vs W=>(vs 1)=vS a.Path,fun vs W=>(vs 2)=ptr ((bx k).add 1),fun vs W=>(vs 3)=b8,fun vs W=>Ow W 8 [] [(vs 4)] am,fun vs W=>(vs 5) = .agg [vI 2,vS a.Path,vS ([]:Str),(vs 4), .slice none 0 0].toArray,fun vs W=>(vs 6)=ptr (bx (pg (vs 6)))/\Bx W 9 (pg (vs 6)) [vI 0,vS ([]:Str),vS ([]:Str), .slice none 0 0, .slice none 0 0],fun vs W=>(vs 6)=ptr (bx (pg (vs 6)))/\Bx W 9 (pg (vs 6)) [vI 2,vS a.Path,vS ([]:Str),(vs 4), .slice none 0 0]] [] mixed (by kernel_rfl) O zrl.nil ?_
        intro iw a0
        have a1:=a0.o
        have dd:=da.up a0
        refine⟨(zbu.cons ?_ (zbu.cons ?_ (zbu.cons ?_ (zbu.cons ?_ (zbu.cons ?_ (zbu.cons ?_ (zbu.cons ?_ (zbu.cons ?_ zbu.nil)))))))),(zeJ.cons SE (zeJ.cons SE (zeJ.cons SE (zeJ.cons SE (zeJ.cons SO (zeJ.cons (fun vs vs' W W' _ hv l hd h=>by(show(vs' 5) = .agg [vI 2,vS a.Path,vS ([]:Str),(vs' 4), .slice none 0 0].toArray);rw[hv 4 (zaY O),hv 5 (zaY O)];exact h) (zeJ.cons (fun vs vs' W W' _ hv l hd h=>by(show(vs' 6)=ptr (bx (pg (vs' 6)))/\Bx W' 9 (pg (vs' 6)) [vI 0,vS ([]:Str),vS ([]:Str), .slice none 0 0, .slice none 0 0]);rw[hv 6 (zaY O)];exact⟨h.1,h.2.up l (zeg hd (c:=9) O)⟩) (zeJ.cons (fun vs vs' W W' _ hv l hd h=>by(show(vs' 6)=ptr (bx (pg (vs' 6)))/\Bx W' 9 (pg (vs' 6)) [vI 2,vS a.Path,vS ([]:Str),(vs' 4), .slice none 0 0]);rw[hv 4 (zaY O),hv 6 (zaY O)];exact⟨h.1,h.2.up l (zeg hd (c:=9) O)⟩) zeJ.nil)))))))),?_⟩
        ·intro vs iy lW hN hV
         exact Trq (R.fa O) O
        ·intro vs iz lW hN hV
         have de:vs 0=ptr ((bx k).add 0):=(hN 0 (zaY O))
         obtain⟨vs,rfl⟩:=zaC de
         exact Trq (R.ld (v:=vS a.Path) O O ((dd.up lW O).cell O)) O
        ·intro vs i0 lW hN hV
         exact Trq (R.fa O) O
        ·intro vs i1 lW hN hV
         have df:vs 2=ptr ((bx k).add 1):=(hN 2 (zaY O))
         obtain⟨vs,rfl⟩:=zaC df
         exact Trq (R.ld (v:=b8) O O ((dd.up lW O).cell O)) O
        ·intro vs i2 lW hN hV
         have gc:=((((z.trans A).trans P).trans ak).trans a1).t lW O
         have dg:vs 3=b8:=(hN 3 (zaY O))
         obtain⟨vs,rfl⟩:=zaC dg
         refine Tr.mono (T.call O (p168 (k0:=8) (r49.ul gc) gb)) ?_
         rintro gd _ ⟨ej,rfl,gf,⟨_,rfl,gg⟩⟩
         exact⟨ej,O,gf,(show Ow ej 8 [] [gd] am from gg)⟩
        ·intro vs gh lW hN hV
         have dh:vs 1=vS a.Path:=(hN 1 (zaY O))
         obtain⟨vs,rfl⟩:=zaC dh
         obtain⟨b,a2⟩: ∃ v,vs 4=v:=⟨_,O⟩
         obtain⟨vs,rfl⟩:=zaC a2
         have gj:Ow gh 8 [] [b] am:=(hN 4 (zaY O))
         exact Trq (R.bd (zs:=[vI 0,vS ([]:Str),vS ([]:Str), .slice none 0 0, .slice none 0 0]) (cs:=[vI 2,vS a.Path,vS ([]:Str),b, .slice none 0 0]) [(0,vI 2),(1,vS a.Path),(3,b)] O O O (zbc O O (zbc O O (zbc gj.oc O ze4)))) O
        ·intro vs i3 lW hN hV
         refine Tr.mono (T.alloc 9 (cs:=[vI 0,vS ([]:Str),vS ([]:Str), .slice none 0 0, .slice none 0 0]) O) ?_
         rintro _ _ ⟨di,ek,rfl,rfl,gk,gm⟩
         exact⟨ek,O,gk,(show(ptr (bx di):Value)=ptr (bx di)/\Bx ek 9 di [vI 0,vS ([]:Str),vS ([]:Str), .slice none 0 0, .slice none 0 0] from⟨O,gm⟩)⟩
        ·intro vs el lW hN hV
         obtain⟨b,a2⟩: ∃ v,vs 4=v:=⟨_,O⟩
         obtain⟨vs,rfl⟩:=zaC a2
         have gn:Ow el 8 [] [b] am:=(hN 4 (zaY O))
         have dj:vs 5 = .agg [vI 2,vS a.Path,vS ([]:Str),b, .slice none 0 0].toArray:=(hN 5 (zaY O))
         obtain⟨vs,rfl⟩:=zaC dj
         obtain⟨d,dk⟩: ∃ d,vs 6=ptr (bx d):=⟨_,((hN 6 (zaY O))).1⟩
         obtain⟨vs,rfl⟩:=zaC dk
         have go:Bx el 9 d [vI 0,vS ([]:Str),vS ([]:Str), .slice none 0 0, .slice none 0 0]:=(hN 6 (zaY O)).2
         refine Tr.mono (T.sta (vs:=[vI 2,vS a.Path,vS ([]:Str),b, .slice none 0 0]) go O O (zaa O (zaa O (zaa O (zaa gn.oc (zaa O za0))))) O O) ?_
         rintro _ _ ⟨em,rfl,gr,gs⟩
         exact⟨em,O,gr,(show(ptr (bx d))=ptr (bx d)/\Bx em 9 d [vI 2,vS a.Path,vS ([]:Str),b, .slice none 0 0] from⟨O,gs⟩)⟩
        ·intro vs a3 a5 hN
         have cc:=a5.s
         have de:vs 0=ptr ((bx k).add 0):=(hN 0 (zaY O))
         obtain⟨vs,rfl⟩:=zaC de
         have dh:vs 1=vS a.Path:=(hN 1 (zaY O))
         obtain⟨vs,rfl⟩:=zaC dh
         have df:vs 2=ptr ((bx k).add 1):=(hN 2 (zaY O))
         obtain⟨vs,rfl⟩:=zaC df
         have dg:vs 3=b8:=(hN 3 (zaY O))
         obtain⟨vs,rfl⟩:=zaC dg
         obtain⟨b,a2⟩: ∃ v,vs 4=v:=⟨_,O⟩
         obtain⟨vs,rfl⟩:=zaC a2
         have gu:Ow a3 8 [] [b] am:=(hN 4 (zaY O))
         have dj:vs 5 = .agg [vI 2,vS a.Path,vS ([]:Str),b, .slice none 0 0].toArray:=(hN 5 (zaY O))
         obtain⟨vs,rfl⟩:=zaC dj
         obtain⟨d,dk⟩: ∃ d,vs 6=ptr (bx d):=⟨_,(hN 7 (zaY O)).1⟩
         obtain⟨vs,rfl⟩:=zaC dk
         have gv:Bx a3 9 d [vI 2,vS a.Path,vS ([]:Str),b, .slice none 0 0]:=(hN 7 (zaY O)).2
         obtain⟨en,gw,Y⟩:=zbM Y
         refine Cw.join 47 86 [6,13,14,15] (fun l w=> ∃ cd an ao ap ce cf cg dl dm dn a6 a7 S,CW.w S=w/\Le [3,9,12,13] a3 S/\l=[cg,dl,dm,dn]/\Ow S 3 [] [cg] cd/\Ow S 8 [] [a6] ce/\Ow S 10 [] [a7] cf/\Bx S 9 d [vI an,vS ao,vS ap,a6,a7]/\en cd an ao ap ce cf=some r) ?_ ?_
         ·rintro _ _ σ ⟨cd,an,ao,ap,ce,cf,cg,dl,dm,dn,a6,a7,S,rfl,eo,rfl,gx,gy,gz,g0,Y⟩
          rw[gw]at Y
          refine rg (mv I O (la g0 (Lw.t O (T.bs 11 [.agg [vI an,vS ao,vS ap,a6,a7].toArray] (cs:=[vI an,vS ao,vS ap,a6,a7]) O O (bsA O)) ?_)))
          rintro _ _ ⟨i4,i5,rfl,rfl,a8,g1⟩
          obtain⟨g2,g3,Y⟩:=ob Y
          refine Lw.t O (T.app1 (α:=Change) (J:=[8,10]) (K':=[]) ((((c8.up a0).up a5).up eo).up a8) g1 (Change.own an ao ap ce cf (gy.up a8).s (gz.up a8).s) O O g3) ?_
          rintro ep _ ⟨g4,rfl,er,g5⟩
          exact Nv ep O ((ag) ⟨g2,cd,ep,cg,ptr (bx k),f,vB N.2,ptr (bx d),dl,dm,dn,g4,O,((((((((ai.j aj).j B).j C).j a0).j a5).j eo).j a8).j er).w,O,g5,((gx.up a8).up er),Y⟩)
         ·refine sr (mv ae O (Lw.ln x1 (G.ul ((((((y.trans z).trans A).trans P).trans ak).trans a1).trans cc)) O (mi O (nl (Cw.block (Cw.loop 49 86 [6,13,14,15,49] (fun m l w=> ∃ a9 ch ba bb bc be bg U dp dq dr bh bi V,CW.w V=w/\Le [3,9,13] a3 V/\l=[U,dp,dq,dr,vI ch]/\Ow V 3 [] [U] a9/\Ow V 8 [] [bh] be/\Ow V 12 [] [bi] bg/\Bx V 9 d [vI ba,vS bb,vS bc,bh,bi]/\Vm.zen x0 x1 a en m a9 ch ba bb bc be bg=some r) _ ⟨H,0,2,a.Path,([]:Str),am,([]:List Hunk),L,aw,ax,ay,b, .slice none 0 0,a3,O,Le.refl _ _,O,((c9.up a0).up a5),gu,owN 12 [],gv,Y⟩ ?_))))))
          rintro(_ |i6) _ _ σ ⟨a9,ch,ba,bb,bc,be,bg,U,dp,dq,dr,bh,bi,V,rfl,bj,rfl,es,et,eu,ew,Y⟩
          ·cases Y
          unfold Vm.zen at Y
          have ds:=bj.s
          refine sr (Lw.lt O (nl (Cw.seq (cn Y (fun Y=>?_) fun Y=>?_))))
          ·refine sk (Cw.seq (Cw.block (sr ?_)))
           obtain⟨bk,ex,Y⟩:=ob Y
           have ey:=G.ul (((((((y.trans z).trans A).trans P).trans ak).trans a1).trans cc).trans ds)
           refine Lw.r O (R.ix (α:=File) ey ex O O O) ?_
           obtain⟨x289,c290,_,r291⟩:=(ey.at_ ex).cells
           obtain⟨i7,rfl,r293⟩:=File.split r291
           refine Lw.r O (R.lda c290 O O) (al 13 [vS ([]:Str), .slice none 0 0] fun ez i8 D g6=>?_)
           have dt:=D.o
           refine sta g6 (zaa O (zaa r293.oc za0)) fun i9 E bl=>?_
           have du:=E.s
           refine nl (sr (mv ac O (fl bl O (cr Y (fun _=>p165 (k0:=14) (h0.ul (((((((((y.trans z).trans A).trans P).trans ak).trans a1).trans cc).trans ds).trans dt).trans du))) ?_))))
           rintro aq _ e0 Y e ⟨X,rfl,ja⟩
           have e1:=e.o
           have dv:=((es.up D).up E).up e
           have e2:=((((dd.up a5).up bj).up D).up E).up e
           refine mv (.tuple [X,vB aq.2].toArray) O (Lw.r O (R.ext (vs:=[X,vB aq.2]) (v:=X) O O) (Lw.r O (R.ext (vs:=[X,vB aq.2]) (v:=vB aq.2) O O) (Gv X O (Nb O ?_))))
           obtain⟨g7,g8,Y⟩:=zbM Y
           refine Cw.join 60 75 [75] (fun l w=> ∃ dw ci,CW.w ci=w/\Le [] e0 ci/\l=[vB dw]/\g7 dw=some r) ?_ ?_
           ·rintro _ _ σ ⟨dw,ci,rfl,i,rfl,Y⟩
            rw[g8]at Y
            have e3:=(((ew.up D).up E).up e).up i
            refine cn Y (fun Y=>?_) fun Y=>?_
            ·refine sr (fl (e2.up i) O (fl ((bl.up e).up i) O (Lw.r O (R.bd (zs:=[vI 0,vS ([]:Str),vS ([]:Str), .slice none 0 0, .slice none 0 0]) (cs:=[vI 4,vS a.Path,vS bk.Path, .slice none 0 0, .slice none 0 0]) [(0,vI 4),(1,vS a.Path),(2,vS bk.Path)] O O O (zbc O O (zbc O O (zbc O O ze4)))) (sta e3 (zaa O (zaa O (zaa O (zaa O (zaa O za0))))) fun jb dx g9=>nl (sr (mv U O (fl (((bl.up e).up i).up dx) O (Lw.t O (T.bs 15 [vS bk.Path] (cs:=[vS bk.Path]) O O (bsv O)) ?_))))))))
             rintro _ _ ⟨jc,jd,rfl,rfl,dy,ha⟩
             obtain⟨hb,hc,Y⟩:=ob Y
             refine Lw.t O (T.app1S (α:=Str) (K':=[]) (((dv.up i).up dx).up dy) ha (rdS _) O O hc) ?_
             rintro e4 _ ⟨he,rfl,e5,hf⟩
             exact Nv e4 O (Cw.exit ((ag) ⟨hb,4,a.Path,bk.Path,([]:List Str),([]:List Hunk),e4,ptr (bx ez),X,vB aq.2, .slice none 0 0, .slice none 0 0,he,O,(((((((bj.j D).j E).j e).j i).j dx).j dy).j e5).w,O,hf,owN 8 [],owN 10 [],((g9.up dy).up e5),Y⟩))
            ·exact sk (rg (Lw.add O (mi O (nl ((agm) ⟨a9,w64 (ch+1),ba,bb,bc,be,bg,U,ptr (bx ez),X,vB aq.2,bh,bi,ci,O,((((bj.j D).j E).j e).j i).w,O,(dv.up i),((((et.up D).up E).up e).up i),((((eu.up D).up E).up e).up i),e3,Y⟩)))))
           ·refine rg (mb O (Lw.r O (R.not O) (mb O (bs Y (fun bm Y=>?_) fun bm Y=>?_))))
            ·refine wak 5 bm (fl (bl.up e) O (fl e2 O (ca Y (fun _=>p166 (r293.ul ((dt.trans du).trans e1)) (r49.ul (((((((((z.trans A).trans P).trans ak).trans a1).trans cc).trans ds).trans dt).trans du).trans e1))) fun je hg Y cj=>Pb bm O (mb O (bs Y (fun bn Y=>?_) fun bn Y=>?_)))))
             ·exact wak 5 bn (mv U O (fl ((bl.up e).up cj) O (ca Y (fun _=>p107 (K:=[3]) (dv.up cj).rd) fun hh hi Y hj=>Lw.r O (R.not O) (Pb bn O (nl ((ag) ⟨(!hh),hi,O,(cj.j hj).w,O,Y⟩))))))
             ·exact psk 5 bn O (Pb bn O (nl ((ag) ⟨false,hg,O,cj,O,Y⟩)))
            ·exact psk 5 bm O (Pb bm O (mb O (psk 5 O O (Pb O O (nl ((ag) ⟨false,e0,O,Le.refl _ _,O,Y⟩))))))
          ·refine Cw.exit ?_
           obtain⟨hk,hl,ck,hn⟩:=eu.dyeO 10
           exact(ag) ⟨a9,ba,bb,bc,be,bg,U,dp,dq,dr,bh,bi,hk,hl,(bj.j ck).w,O,(es.up ck),(et.up ck),hn,(ew.up ck),Y⟩
     ·refine rg (mb O (mb O (bs Y (fun bp Y=>?_) fun bp Y=>?_)))
      ·exact wak 4 bp (mv f O (fl (c6.up B) O (ca Y (fun _=>p166 (K:=[0,5]) (eg.rd.sub (M:=[0,5]) O) ((r49.ul ((z.trans A).trans P)).sub (M:=[0,5]) O)) fun ho hp Y hq=>Pb bp O (Nb O ((ag) ⟨ho,hp,O,hq,O,Y⟩)))))
      ·exact psk 4 bp O (Pb bp O (Nb O ((ag) ⟨false,ef,O,Le.refl _ _,O,Y⟩)))
   ·refine Cw.exit ?_
    rw[ft]at Y
    refine ssr (mv ae O (Lw.ln x1 (G.ul y) O (mi O (nl (Cw.block ?_)))))
    obtain⟨hr,hs,Y⟩:=zbM Y
    refine Cw.loop 114 143 [5,17,18,19,114] (fun m l w=> ∃ cl cm F e6 e7 e8 bq,CW.w bq=w/\Le [2,16,18] x bq/\l=[F,e6,e7,e8,vI cm]/\Ow bq 2 [] [F] cl/\Vm.zcf x0 x1 H hr m cl cm=some r) _ ⟨y7,0,I,undef,undef,undef,x,O,Le.refl _ _,O,o9,Y⟩ ?_
    rintro(_ |jf) _ _ σ ⟨cl,cm,F,e6,e7,e8,bq,rfl,dz,rfl,e9,Y⟩
    ·cases Y
    unfold Vm.zcf at Y
    have co:=y.t dz
    refine sr (Lw.lt O (nl (Cw.seq (cn Y (fun Y=>?_) fun Y=>?_))))
    ·refine sk ?_
     obtain⟨ht,hu,Y⟩:=zbM Y
     refine Cw.join 116 142 [5,17,18,19] (fun l w=> ∃ cp cq d0 d1 d2 br,CW.w br=w/\Le [2,16,18] bq br/\l=[cq,d0,d1,d2]/\Ow br 2 [] [cq] cp/\ht cp=some r) ?_ ?_
     ·rintro _ _ σ ⟨cp,cq,d0,d1,d2,br,rfl,hw,rfl,hx,Y⟩
      rw[hu]at Y
      exact rg (Lw.add O (mi O (nl ((agm) ⟨cp,w64 (cm+1),cq,d0,d1,d2,br,O,(dz.j hw).w,O,hx,Y⟩))))
     ·refine Cw.block (sr ?_)
      obtain⟨bu,fb,Y⟩:=ob Y
      refine Lw.r O (R.ix (α:=File) (G.ul co) fb O O O) ?_
      obtain⟨x448,c449,_,r450⟩:=((G.ul co).at_ fb).cells
      obtain⟨jg,rfl,r452⟩:=File.split r450
      refine Lw.r O (R.lda c449 O O) (al 16 [vS ([]:Str), .slice none 0 0] fun fc jh bv hy=>?_)
      have fd:=bv.o
      refine sta hy (zaa O (zaa r452.oc za0)) fun ji bw d3=>?_
      have fe:=bw.s
      refine nl (sr (mv ac O (fl d3 O (cr Y (fun _=>p165 (k0:=17) (h0.ul ((co.trans fd).trans fe))) ?_))))
      rintro ar _ ff Y Z ⟨aa,rfl,jj⟩
      have hz:=(fd.trans fe).n Z
      refine mv (.tuple [aa,vB ar.2].toArray) O (Lw.r O (R.ext (vs:=[aa,vB ar.2]) (v:=aa) O O) (Lw.r O (R.ext (vs:=[aa,vB ar.2]) (v:=vB ar.2) O O) (Gv aa O (Nb O ?_))))
      obtain⟨h2,h3,Y⟩:=zbM Y
      refine Cw.join 125 133 [133] (fun l w=> ∃ d4 ct,CW.w ct=w/\Le [] ff ct/\l=[vB d4]/\h2 d4=some r) ?_ ?_
      ·rintro _ _ σ ⟨d4,ct,rfl,bz,rfl,Y⟩
       rw[h3]at Y
       have h4:=hz.n bz
       have fg:=(((e9.up bv).up bw).up Z).up bz
       refine cn Y (fun Y=>?_) fun Y=>?_
       ·refine Cw.draw [2,18] [(0,0),(1,0),(2,1),(3,0),(4,1),(5,2),(6,0),(7,2),(8,2),(9,0)] mixed (by kernel_rfl) fun jk cu=>?_
        have h5:=h4.n cu
        have fh:=((d3.up Z).up bz).up cu
        refine Dv F O (Dfl fh O O O (Dfl fh O O O (Dc Y (Le.refl _ _) (fun _=>p168 (k0:=18) (r452.ul h5)) O ?_)))
        rintro h6 cv jl Y fi ⟨_,rfl,fj⟩ h7
        refine Mw.p O O (fun _=>R.bd (zs:=[vI 0,vS ([]:Str),vS ([]:Str), .slice none 0 0, .slice none 0 0]) (cs:=[vI 1,vS bu.Path,vS ([]:Str),cv, .slice none 0 0]) [(0,vI 1),(1,vS bu.Path),(3,cv)] O O O (zbc O O (zbc O O (zbc fj.oc O ze4)))) (Mw.t O O (T.bs 19 [.agg [vI 1,vS bu.Path,vS ([]:Str),cv, .slice none 0 0].toArray] (cs:=[vI 1,vS bu.Path,vS ([]:Str),cv, .slice none 0 0]) O O (bsA O)) ?_)
        rintro _ _ ⟨jm,jo,rfl,rfl,cw,h8⟩
        refine mc h7 cw fun h9=>?_
        obtain⟨ia,ib,Y⟩:=ob Y
        refine Mw.t O O (T.app1 (α:=Change) (J:=[18]) (K':=[]) (((fg.up cu).up fi).up cw) h8 (Change.own 1 bu.Path ([]:Str) h6 ([]:List Hunk) (fj.up cw).s (znU [])) O O ib) ?_
        rintro fm _ ⟨ic,rfl,fn,id⟩
        exact mc h9 fn fun jp=>Hv fm O (Mw.nil ((ag) ⟨ia,fm,ptr (bx fc),aa,vB ar.2,ic,O,(((((((bv.j bw).j Z).j bz).j cu).j fi).j cw).j fn).w,O,id,Y⟩))
       ·exact sk ((ag) ⟨cl,F,ptr (bx fc),aa,vB ar.2,ct,O,(((bv.j bw).j Z).j bz).w,O,fg,Y⟩)
      ·refine rg (mb O (Lw.r O (R.not O) (mb O (bs Y (fun b0 Y=>?_) fun b0 Y=>?_))))
       ·exact wak 5 b0 (mv L O (fl (d3.up Z) O (ca Y (fun _=>p107 (K:=[3]) ((((ed.up dz).up bv).up bw).up Z).rd) fun ie ig Y ih=>Lw.r O (R.not O) (Pb b0 O (nl ((ag) ⟨(!ie),ig,O,ih,O,Y⟩))))))
       ·exact psk 5 b0 O (Pb b0 O (nl ((ag) ⟨false,ff,O,Le.refl _ _,O,Y⟩)))
    ·refine Cw.exit ?_
     rw[hs]at Y
     refine sr (mv F O (Nv F O ?_))
     cases Y
     exact Cw.ret (zkN O (Res.mk co ⟨F,O,e9.s.sub O O⟩))
 ·refine rg (mv ac O (ca Y (fun _=>p114 h0 d6) fun jq ii Y d5=>?_))
  have fo:=d5.o
  refine Lw.r O (R.not O) (mb O (bs Y (fun b1 Y=>?_) fun b1 Y=>?_))
  ·exact psk 3 b1 O (Pb b1 O (nl ((ag) ⟨true,ii,O,d5,O,Y⟩)))
  ·exact wak 3 b1 (mv ae O (ca Y (fun _=>p114 (G.ul fo) (d6.ul fo)) fun ij ik Y il=>Lw.r O (R.not O) (Pb b1 O (nl ((ag) ⟨(!ij),ik,O,(d5.j il).w,O,Y⟩)))))
theorem p103 {x0 b x1 d k0 r}(f:Rd W K [b] x0)(h:Rd W K [d] x1)(i:Gl 0 W K)(Y:Vm.zhL x0 x1=some r):Q1 103 [b,d] W [] fun W' v=> ∃ a,v=a/\Ow W' k0 [] [a] r:=
 (c103 (f.view _) (h.view _) (i.view _) Y).ad (fk k0) fun _ _ ⟨a,e,k⟩=>⟨a,e,k.back (ziQ _)⟩
theorem c102 {x0 x r}(y:Rd W0 [0] [x] x0)(Y:Vm.zjd x0=some r):Q0 102 [x] W0 fun Wf v=> ∃ G,v=G/\OwS Wf LL [] [G] r:=by
 unfold Vm.zjd at Y
 refine zaz.of Tryz.func102 O O O O (sr (Nv (.slice none 0 0) O (sr (Nv (.slice none 0 0) O (ssr (mv x O (Lw.ln x0 y O (mi O (nl (Cw.block ?_))))))))))
 obtain⟨V,W,Y⟩:=zbM Y
 refine Cw.loop 8 25 [3,5,8] (fun m l w=> ∃ z e a H b,CW.w b=w/\Le [2,3] W0 b/\l=[a,H,vI e]/\Ow b 2 [] [a] z/\Vm.zfy x0 V m z e=some r) _ ⟨([]:List Str),0, .slice none 0 0,undef,W0,O,Le.refl _ _,O,owN 2 [],Y⟩ ?_
 rintro(_ |m8) _ _ σ ⟨z,e,a,H,b,rfl,I,rfl,J,Y⟩
 ·cases Y
 unfold Vm.zfy at Y
 have A:=I.s
 refine sr (Lw.lt O (nl (Cw.seq (cn Y (fun Y=>?_) fun Y=>?_))))
 ·refine sk ?_
  obtain⟨X,Z,Y⟩:=zbM Y
  refine Cw.join 10 24 [3,5] (fun l w=> ∃ f h B d,CW.w d=w/\Le [2,3] b d/\l=[h,B]/\Ow d 2 [] [h] f/\X f=some r) ?_ ?_
  ·rintro _ _ σ ⟨f,h,B,d,rfl,aa,rfl,ac,Y⟩
   rw[Z]at Y
   exact rg (Lw.add O (mi O (nl ((agm) ⟨f,w64 (e+1),h,B,d,O,(I.j aa).w,O,ac,Y⟩))))
  ·refine Cw.block (sr ?_)
   obtain⟨i,L,Y⟩:=ob Y
   refine Lw.r O (R.ix (α:=Change) (y.ul A) L O O O) ?_
   obtain⟨x21,c22,_,r23⟩:=((y.ul A).at_ L).cells
   obtain⟨ax,ay,rfl,r25,r27⟩:=Change.split r23
   refine Lw.r O (R.lda c22 O O) (al 3 [vI 0,vS ([]:Str),vS ([]:Str), .slice none 0 0, .slice none 0 0] fun M az C ae=>sta ae (zaa O (zaa O (zaa O (zaa r25.oc (zaa r27.oc za0))))) fun a0 D N=>nl (sr (mv a O (fl N O (Lw.t O (T.bs 4 [vS i.Path] (cs:=[vS i.Path]) O O (bsv O)) ?_)))))
   rintro _ _ ⟨a1,a2,rfl,rfl,k,af⟩
   obtain⟨ah,ai,Y⟩:=ob Y
   refine Lw.t O (T.app1S (α:=Str) (K':=[]) (((J.up C).up D).up k) af (rdS _) O O ai) ?_
   rintro E _ ⟨aj,rfl,F,P⟩
   have Q:=(N.up k).up F
   refine Nv E O (sr (fl Q O (Lw.eq O (nl (cn Y (fun Y=>?_) fun Y=>?_)))))
   ·refine rg (mv E O (fl Q O (Lw.t O (T.bs 5 [vS i.To] (cs:=[vS i.To]) O O (bsv O)) ?_)))
    rintro _ _ ⟨a3,a4,rfl,rfl,S,ak⟩
    obtain⟨am,an,Y⟩:=ob Y
    refine Lw.t O (T.app1S (α:=Str) (K':=[]) (P.up S) ak (rdS _) O O an) ?_
    rintro U _ ⟨ao,rfl,ap,aq⟩
    exact Nv U O ((ag) ⟨am,U,ptr (bx M),ao,O,(((((C.j D).j k).j F).j S).j ap).w,O,aq,Y⟩)
   ·exact sk ((ag) ⟨ah,E,ptr (bx M),aj,O,(((C.j D).j k).j F).w,O,P,Y⟩)
 ·refine Cw.exit ?_
  rw[W]at Y
  refine sr (mv a O (cr Y (fun _=>p164 (K:=[0]) (c0:=2) J O) ?_))
  rintro a5 _ a6 Y ar ⟨rfl,au⟩
  have av:=A.t ar
  refine nl (sr (mv a O (Nv a O ?_)))
  cases Y
  exact Cw.ret (zkN O (Res.mk av ⟨a,O,au.s.sub O O⟩))
theorem p102 {x0 b k0 r}(d:Rd W K [b] x0)(Y:Vm.zjd x0=some r):Q1 102 [b] W [] fun W' v=> ∃ a,v=a/\Ow W' k0 [] [a] r:=
 (c102 (d.view _) Y).ad (fk k0) fun _ _ ⟨a,e,f⟩=>⟨a,e,f.back (ziQ _)⟩
theorem c106 {x0 x x1 r}(y:Rd W0 [0] [x] x0)(K:Gl 0 W0 [0])(Y:Vm.zje x0 x1=some r):Q0 106 [x,vS x1] W0 fun Wf v=>v=vS r:=by
 unfold Vm.zje at Y
 refine zaz.of Tryz.func106 O O O O (sr (Ns O (Cw.seq ?_)))
 obtain⟨K3,ai,Y⟩:=zbM Y
 refine Cw.join 8 15 [15] (fun l w=> ∃ L M,CW.w M=w/\Le [] W0 M/\l=[vB L]/\K3 L=some r) ?_ ?_
 ·rintro _ _ σ ⟨L,M,rfl,l2,rfl,Y⟩
  rw[ai]at Y
  have S:=l2.o
  refine cn Y (fun Y=>?_) fun Y=>?_
  ·exact sr (Ns O (.ret (rt Y S)))
  ·refine sk (sr (al 2 [vS ([]:Str),vS ([]:Str)] fun T U l6 b6=>?_))
   have V:=S.n l6
   refine nl (ssr (mv x O (Lw.ln x0 (y.ul V) O (mi O (nl (Cw.block ?_))))))
   obtain⟨an,ao,Y⟩:=zbM Y
   refine Cw.loop 18 42 [7,18] (fun m l w=> ∃ z a A W b,CW.w b=w/\Le [2,3] U b/\l=[W,vI z]/\Bx b 2 T [vS a,vS A]/\Vm.zfz x0 x1 an m z a A=some r) _ ⟨0,([]:Str),([]:Str),undef,U,O,Le.refl _ _,O,b6,Y⟩ ?_
   rintro(_ |ba) _ _ σ ⟨z,a,A,W,b,rfl,X,rfl,Z,Y⟩
   ·cases Y
   unfold Vm.zfz at Y
   have B:=V.t X
   refine sr (Lw.lt O (nl (Cw.seq (cn Y (fun Y=>?_) fun Y=>?_))))
   ·refine sk ?_
    obtain⟨ap,aq,Y⟩:=zbM Y
    refine Cw.join 20 41 [7] (fun l w=> ∃ C D N d,CW.w d=w/\Le [2,3] b d/\l=[N]/\Bx d 2 T [vS C,vS D]/\ap C D=some r) ?_ ?_
    ·rintro _ _ σ ⟨C,D,N,d,rfl,ar,rfl,au,Y⟩
     rw[aq]at Y
     exact rg (Lw.add O (mi O (nl ((agm) ⟨w64 (z+1),C,D,N,d,O,(X.j ar).w,O,au,Y⟩))))
    ·refine Cw.block (sr ?_)
     obtain⟨E,aa,Y⟩:=ob Y
     refine Lw.r O (R.ix (α:=Owner) (y.ul B) aa O O O) ?_
     obtain⟨x29,c30,_,r31⟩:=((y.ul B).at_ aa).cells
     obtain rfl:=Owner.split r31
     refine Lw.r O (R.lda c30 O O) (al 3 [vS ([]:Str),vS ([]:Str)] fun ac bb F av=>?_)
     have aw:=B.n F
     refine sta av (zaa O (zaa O za0)) fun ae G e=>?_
     have ax:=aw.t G
     have H:=(Z.up F).up G
     refine nl ?_
     obtain⟨ay,az,Y⟩:=zbM Y
     refine Cw.join 22 40 [40] (fun l w=> ∃ P I,CW.w I=w/\Le [] ae I/\l=[vB P]/\ay P=some r) ?_ ?_
     ·rintro _ _ σ ⟨P,I,rfl,f,rfl,Y⟩
      rw[az]at Y
      refine cn Y (fun Y=>?_) fun Y=>?_
      ·exact rg (la (e.up f) (sta (H.up f) (zaa O (zaa O za0)) fun a0 a1 a2=>nl ((ag) ⟨E.Path,E.Who,ptr (bx ac),a0,O,(((F.j G).j f).j a1).w,O,a2,Y⟩)))
      ·exact sk ((ag) ⟨a,A,ptr (bx ac),I,O,((F.j G).j f).w,O,(H.up f),Y⟩)
     ·refine rg (fl e O (ms O (Lw.seq O (mb O (bs Y (fun h Y=>?_) fun h Y=>?_)))))
      ·exact psk 4 h O (Pb h O (mb O (wak 7 O (fl e O (Lw.r O (R.lenS O) (fl H O (Lw.r O (R.lenS O) (Lw.gt O (Pb O O (nl ((ag) ⟨decide (a.length< (E.Path.length:Int)),ae,O,Le.refl _ _,O,Y⟩)))))))))))
      ·refine wak 4 h (fl e O (ms O (ca Y (fun _=>p170 (K.ul ax)) fun bc af Y J=>Pb h O (mb O (bs Y (fun i Y=>?_) fun i Y=>?_)))))
       ·exact wak 7 i (fl (e.up J) O (Lw.r O (R.lenS O) (fl (H.up J) O (Lw.r O (R.lenS O) (Lw.gt O (Pb i O (nl ((ag) ⟨decide (a.length< (E.Path.length:Int)),af,O,J,O,Y⟩))))))))
       ·exact psk 7 i O (Pb i O (nl ((ag) ⟨false,af,O,J,O,Y⟩)))
   ·refine Cw.exit ?_
    rw[ao]at Y
    exact sr (fl Z O (Ns O (.ret (rt Y B))))
 ·refine rg (mv x O (ca Y (fun _=>p100 y K) fun be a3 Y Q=>?_))
  have a5:=Q.o
  refine Lw.r O (R.not O) (mb O (bs Y (fun k Y=>?_) fun k Y=>?_))
  ·exact psk 3 k O (Pb k O (nl ((ag) ⟨true,a3,O,Q,O,Y⟩)))
  ·exact wak 3 k (ms O (ca Y (fun _=>p162 (K.ul a5)) fun a6 a8 Y a9=>Lw.r O (R.not O) (Pb k O (nl ((ag) ⟨(!a6),a8,O,(Q.j a9).w,O,Y⟩)))))
theorem p106 {x0 a x1 r}(b:Rd W K [a] x0)(d:Gl 0 W K)(Y:Vm.zje x0 x1=some r):Q1 106 [a,vS x1] W [] fun W' v=>v=vS r:=
 (c106 (b.view _) (d.view _) Y).ad (fk 0) fun _ _ e=>e
theorem c108 {x0 a x1 r}(i:Rd W0 [0] [a] x0)(Y:Vm.zjf x0 x1=some r):Q0 108 [a,vS x1] W0 fun Wf v=> ∃ d,v=d/\OwS Wf LL [] [d] r:=by
 unfold Vm.zjf at Y
 refine zaz.of Tryz.func108 O O O O (sr (Nv (.slice none 0 0) O (sr (Lw.t O (T.lit0 (α:=Str) 2 []) ?_))))
 rintro Q _ ⟨R,rfl,k,x⟩
 have e:=k.o
 refine mv a O ?_
 obtain⟨S,y,Y⟩:=ob Y
 refine Lw.t O (T.appP (α:=Str) x (i.ul e) O O y) ?_
 rintro U _ ⟨V,rfl,z,A⟩
 have B:=e.t z
 refine ms O (Lw.t O (T.bs 3 [vS x1] (cs:=[vS x1]) O O (bsv O)) ?_)
 rintro _ _ ⟨W,X,rfl,rfl,f,C⟩
 have D:=B.n f
 obtain⟨Z,E,Y⟩:=ob Y
 refine Lw.t O (T.app1S (α:=Str) (K':=[]) (A.up f) C (rdS _) O O E) ?_
 rintro b _ ⟨aa,rfl,F,G⟩
 have H:=D.t F
 refine Nv b O (sr (mv b O (cr Y (fun _=>p164 (K:=[0]) (c0:=2) G O) ?_)))
 rintro ac _ ae Y I ⟨rfl,J⟩
 have L:=H.t I
 refine nl (sr (mv b O (cr Y (fun _=>p172 (K:=[0]) (k0:=4) (c0:=2) J O) ?_)))
 rintro af h ah Y M ⟨_,rfl,N⟩
 have P:=L.t M
 refine Nv h O ?_
 cases Y
 exact Cw.ret (zkN O (Res.mk P ⟨h,O,N.s.sub O O⟩))
theorem p108 {x0 b x1 k0 r}(d:Rd W K [b] x0)(Y:Vm.zjf x0 x1=some r):Q1 108 [b,vS x1] W [] fun W' v=> ∃ a,v=a/\Ow W' k0 [] [a] r:=
 (c108 (d.view _) Y).ad (fk k0) fun _ _ ⟨a,e,f⟩=>⟨a,e,f.back (ziQ _)⟩
end Go.Sx
