/- Walks: each function answers as its model, printed by a program of ours. Conditions: the arguments read as they are given. -/
import Derived.Test.YtiahldhbknpmiaaGreatDoorATs
import Derived.Test.YtiahldhbknpmiaaGreatDoorAM0
import Derived.Test.YtiahldhbknpmiaaGreatDoorAW0
import Derived.Test.YtiahldhbknpmiaaGreatDoorAE
namespace Go.Sx
open Go Go.Proofs Go.Vm Rp
set_option linter.unusedVariables false
set_option linter.unusedSimpArgs false
variable {W W0:CW}{K:List Nat}
theorem c68 {x0 aj F r}(h0:Rd W0 [0] [aj,F] x0)(Y:Vm.zdJ x0=some r):Q0 68 [.agg [aj,F].toArray] W0 fun Wf v=>v=vB r:=by
 unfold Vm.zdJ at Y
 obtain⟨c4,c5,be,ak,am⟩:=Repo.split h0
 simp only[List.cons.injEq,and_true,true_and]at be
 obtain⟨rfl,rfl⟩:=be
 refine zaz.of Tryz.func68 O O O O (sr (bo 2 O fun g1 W1 l1 b1=>?_))
 have a2:=l1.o
 refine Nb O (ssr (Ni O (Cw.block ?_)))
 obtain⟨K8,b4,Y⟩:=zbM Y
 refine Cw.loop 7 66 [2,3,4,5] (fun m l w=> ∃ G H j5 j6 I,CW.w I=w/\Le [3] W1 I/\l=[vB G,vI H,j5,j6]/\Vm.zc5 x0 K8 m G H=some r) _ ⟨false,0,undef,undef,W1,O,Le.refl _ _,O,Y⟩ ?_
 rintro(_ |m9) _ _ σ ⟨G,H,j5,j6,I,rfl,l7,rfl,Y⟩
 ·cases Y
 unfold Vm.zc5 at Y
 have W:=a2.t l7
 have ao:=b1.up l7
 refine ssr ?_
 have ap:=ak.ul W
 refine mi O (fl ao O (Lw.ln x0.Commits ap O (Lw.lt O (nl (cn Y (fun Y=>?_) fun Y=>?_)))))
 ·refine sk (Cw.seq (Cw.block (sr (fl ao O (mi O ?_)))))
  obtain⟨aq,bj,Y⟩:=ob Y
  refine Lw.r O (R.ix (α:=Commit) ap bj O O O) ?_
  obtain⟨x16,c17,_,r18⟩:=(ap.at_ bj).cells
  obtain⟨bk,c8,rfl,r20,r22⟩:=Commit.split r18
  refine Lw.r O (R.lda c17 O O) (al 3 [.slice none 0 0,vS ([]:Str), .slice none 0 0] fun b5 c9 bl b6=>?_)
  have J:=bl.o
  refine sta b6 (zaa r20.oc (zaa O (zaa r22.oc za0))) fun bm bn b7=>?_
  have K:=bn.s
  refine nl (ssr (Ni O (Cw.block ?_)))
  obtain⟨b8,b9,Y⟩:=zbM Y
  refine Cw.loop 19 50 [2,5] (fun m l w=> ∃ L x z,CW.w z=w/\Le [] bm z/\l=[vB L,vI x]/\Vm.zbO H aq b8 m L x=some r) _ ⟨G,0,bm,O,Le.refl _ _,O,Y⟩ ?_
  rintro(_ |da) _ _ σ ⟨L,x,z,rfl,X,rfl,Y⟩
  ·cases Y
  unfold Vm.zbO at Y
  have M:=X.o
  have N:=b7.up X
  refine ssr ?_
  have bp:=r20.ul ((J.trans K).trans M)
  refine mi O (fl N O (Lw.ln aq.Parents bp O (Lw.lt O (nl (cn Y (fun Y=>?_) fun Y=>?_)))))
  ·refine sk (Cw.seq (Cw.block ?_))
   obtain⟨cb,cc,Y⟩:=zbM Y
   refine Cw.join 26 50 [50] (fun l w=> ∃ ar Z,CW.w Z=w/\Le [] z Z/\l=[vB ar]/\cb ar=some r) ?_ ?_
   ·rintro _ _ σ ⟨ar,Z,rfl,bq,rfl,Y⟩
    rw[cc]at Y
    have cd:=(((W.trans J).trans K).trans M).n bq
    refine cn Y (fun Y=>?_) fun Y=>?_
    ·exact sr (Nb O (.ret (rt Y cd)))
    ·exact sk (rg (mi O (Lw.add O (Ni O ((agm) ⟨L,w64 (x+1),Z,O,(X.j bq).w,O,Y⟩)))))
   ·refine Cw.draw [] [(0,0),(1,1),(2,0),(3,0),(4,1),(5,0),(6,0),(7,2),(8,0),(9,0),(10,0),(11,0),(12,0),(13,0),(14,1),(15,0),(16,0),(17,1),(18,0),(19,1),(20,0),(21,1),(22,0),(23,0),(24,0)] mixed (by kernel_rfl) fun db P=>?_
    have ce:=((J.trans K).trans M).n P
    have au:=N.up P
    refine Dfl au O O O (Di O ?_)
    obtain⟨dc,av,Y⟩:=ob Y
    have i:=r20.ul ce
    refine Mw.p O O (fun _=>R.ix (α:=Int) i av O O O) (Mw.q O O (fun _ c=>R.ld O O (zaB (i.at_ av).1 O (i.at_ av).int c)) (Di O (Mw.p O O (fun _=>R.sub O O) (Dc Y (Le.refl _ _) (fun _=>p71) O ?_))))
    rintro dd _ aw Y ax rfl de
    refine Mw.p O O (fun _=>R.not O) (Db O (bs Y (fun f Y=>?_) fun f Y=>?_))
    ·exact dps 3 f O (dpu 10 O (dps 1 f O (Mw.p O O (fun _=>R.pk f O (v:=vB true) O) (Mw.nil ((ag) ⟨true,aw,O,(P.j ax).w,O,Y⟩)))))
    ·refine Wp f O (fun _=>R.mv (v:=vI x) O) (Wp f O (fun _=>R.gt O O) (Wp f O (fun _=>R.mv (v:=vB (decide (0< (x:Int)))) O) (bs Y (fun d Y=>?_) fun d Y=>?_)))
     ·refine Wp d O (fun _=>R.fa O) (Wq d O (fun _ c=>R.ld (v:=bk) O O (au.clc O O c)) (Wp d O (fun _=>R.mv (v:=vI x) O) ?_))
      obtain⟨ay,az,Y⟩:=ob Y
      refine Wp d O (fun _=>R.ix (α:=Int) i az O O O) (Wq d O (fun _ c=>R.ld O O (zaB (i.at_ az).1 O (i.at_ az).int c)) (Wp d O (fun _=>R.fa O) (Wq d O (fun _ c=>R.ld (v:=bk) O O (au.clc O O c)) ?_)))
      obtain⟨a0,a1,Y⟩:=ob Y
      exact Wp d O (fun _=>R.ix (α:=Int) i a1 O O O) (Wq d O (fun _ c=>R.ld O O (zaB (i.at_ a1).1 O (i.at_ a1).int c)) (Wp d O (fun _=>R.eq O O) (Wp f O (fun _=>R.pk d O (v:=vB ((ay:Int)==(a0:Int))) O) (Mw.p O O (fun _=>R.pk f O (v:=vB ((ay:Int)==(a0:Int))) O) (Mw.nil ((ag) ⟨((ay:Int)==(a0:Int)),aw,O,(P.j ax).w,O,Y⟩))))))
     ·exact dps 10 d O (Wp f O (fun _=>R.pk d O (v:=vB false) O) (Mw.p O O (fun _=>R.pk f O (v:=vB false) O) (Mw.nil ((ag) ⟨false,aw,O,(P.j ax).w,O,Y⟩))))
  ·refine Cw.exit ?_
   rw[b9]at Y
   obtain⟨cf,cg,Y⟩:=zbM Y
   refine Cw.join 51 66 [66] (fun l w=> ∃ a3 aa,CW.w aa=w/\Le [] z aa/\l=[vB a3]/\cf a3=some r) ?_ ?_
   ·rintro _ _ σ ⟨a3,aa,rfl,br,rfl,Y⟩
    rw[cg]at Y
    have ch:=(((W.trans J).trans K).trans M).n br
    refine cn Y (fun Y=>?_) fun Y=>?_
    ·exact sr (Nb O (.ret (rt Y ch)))
    ·exact sk (rg (mi O (Lw.add O (Ni O ((agm) ⟨L,w64 (H+1),ptr (bx b5),vI x,aa,O,((((l7.j bl).j bn).j X).j br).w,O,Y⟩)))))
   ·refine rg (fl N O (Lw.ln aq.Parents bp O (Lw.gt O (mb O (bs Y (fun Q Y=>?_) fun Q Y=>?_)))))
    ·exact psk 4 Q O (Pb Q O (mb O (psk 4 O O (Pb O O (nl ((ag) ⟨true,z,O,Le.refl _ _,O,Y⟩))))))
    ·refine wak 4 Q (fl N O (ca Y (fun _=>p70) fun df ci Y ac=>?_))
     have cj:=((J.trans K).trans M).n ac
     refine Lw.r O (R.not O) (Pb Q O (mb O (bs Y (fun S Y=>?_) fun S Y=>?_)))
     ·exact psk 4 S O (Pb S O (nl ((ag) ⟨true,ci,O,ac,O,Y⟩)))
     ·exact wak 4 S (fl (N.up ac) O (ca Y (fun _=>p141 (r22.ul cj)) fun ck cl Y cm=>Lw.r O (R.not O) (Pb S O (nl ((ag) ⟨(!ck),cl,O,(ac.j cm).w,O,Y⟩)))))
 ·refine Cw.exit ?_
  rw[b4]at Y
  refine ssr (Ni O (Cw.block ?_))
  obtain⟨co,cp,Y⟩:=zbM Y
  refine Cw.loop 67 115 [2,6] (fun m l w=> ∃ ae k y,CW.w y=w/\Le [] I y/\l=[vB ae,vI k]/\Vm.zbP x0 co m ae k=some r) _ ⟨G,0,I,O,Le.refl _ _,O,Y⟩ ?_
  rintro(_ |dg) _ _ σ ⟨ae,k,y,rfl,a4,rfl,Y⟩
  ·cases Y
  unfold Vm.zbP at Y
  have A:=W.n a4
  have af:=ao.up a4
  refine ssr (mi O (fl af O (Lw.ln x0.Heads (am.ul A) O (Lw.lt O (nl (cn Y (fun Y=>?_) fun Y=>?_))))))
  ·refine sk (Cw.seq (Cw.block ?_))
   obtain⟨cq,cs,Y⟩:=zbM Y
   refine Cw.join 74 115 [115] (fun l w=> ∃ a5 ah,CW.w ah=w/\Le [] y ah/\l=[vB a5]/\cq a5=some r) ?_ ?_
   ·rintro _ _ σ ⟨a5,ah,rfl,bu,rfl,Y⟩
    rw[cs]at Y
    have ct:=A.n bu
    refine cn Y (fun Y=>?_) fun Y=>?_
    ·exact sr (Nb O (.ret (rt Y ct)))
    ·exact sk (rg (mi O (Lw.add O (Ni O ((agm) ⟨ae,w64 (k+1),ah,O,(a4.j bu).w,O,Y⟩)))))
   ·refine Cw.draw [] [(0,0),(1,1),(2,0),(3,0),(4,0),(5,1),(6,2),(7,0),(8,0),(9,0),(10,1),(11,0),(12,0),(13,0),(14,1),(15,0),(16,1),(17,0),(18,0),(19,2),(20,0),(21,0),(22,0),(23,0),(24,0),(25,0),(26,0),(27,1),(28,0),(29,0),(30,0),(31,1),(32,0),(33,1),(34,0),(35,0),(36,0),(37,0),(38,1),(39,0),(40,0),(41,0)] mixed (by kernel_rfl) fun dh B=>?_
    have bv:=A.n B
    have U:=af.up B
    refine Dfl U O O O (Di O ?_)
    obtain⟨di,a6,Y⟩:=ob Y
    have e:=am.ul bv
    refine Mw.p O O (fun _=>R.ix (α:=Head) e a6 O O O) (Df O (Mw.q O O (fun _ c=>R.ld O O (zaB (Head.at0 (e.at_ a6)).1 O (Head.at0 (e.at_ a6)).str c)) ?_))
    obtain⟨dj,cu,Y⟩:=ob Y
    refine Mw.t O O (T.call O (p70 cu)) ?_
    rintro _ _ ⟨cv,rfl,C,rfl⟩
    have cw:=bv.n C
    refine m0 C fun cx=>Mw.p O O (fun _=>R.not O) (Db O (bs Y (fun b Y=>?_) fun b Y=>?_))
    ·exact dps 12 b O (Mw.p O O (fun _=>R.pk b O (v:=vB true) O) (Db O (dps 3 O O (dpu 14 O (dps 1 O O (Mw.p O O (fun _=>R.pk O O (v:=vB true) O) (Mw.nil ((ag) ⟨true,cv,O,(B.j C).w,O,Y⟩))))))))
    ·refine Wp b O (fun _=>R.fa O) (Wq b O (fun _ c=>R.ld (v:=F) O O (U.clc O O c)) (Wp b O (fun _=>R.mv (v:=vI k) O) ?_))
     obtain⟨dk,a7,Y⟩:=ob Y
     refine Wp b O (fun _=>R.ix (α:=Head) e a7 O O O) (Wp b O (fun _=>R.fa O) (Wq b O (fun _ c=>R.ld O O (zaB (Head.at1 (e.at_ a7)).1 O (Head.at1 (e.at_ a7)).int c)) (Wp b O (fun _=>R.fa O) (Wq b O (fun _ c=>R.ld (v:=aj) O O (U.clc O O c)) (Wp b O (fun _=>ztT (xs:=x0.Commits) (ak.ul cw) O) (Wp b O (fun _=>R.sub O O) ?_))))))
     obtain⟨cy,cz,Y⟩:=ob Y
     refine Wt b O (T.call O (p71 cz)) ?_
     rintro _ _ ⟨a8,rfl,ai,rfl⟩
     refine mc cx ai fun dl=>Wp b O (fun _=>R.not O) (Mw.p O O (fun _=>R.pk b O (v:=vB (!cy)) O) (Db O (bs Y (fun h Y=>?_) fun h Y=>?_)))
     ·exact dps 3 h O (dpu 14 O (dps 1 h O (Mw.p O O (fun _=>R.pk h O (v:=vB true) O) (Mw.nil ((ag) ⟨true,a8,O,((B.j C).j ai).w,O,Y⟩)))))
     ·refine Wp h O (fun _=>R.mv (v:=vI k) O) (Wp h O (fun _=>R.gt O O) (Wp h O (fun _=>R.mv (v:=vB (decide (0< (k:Int)))) O) (bs Y (fun a Y=>?_) fun a Y=>?_)))
      ·refine Wp a O (fun _=>R.fa O) (Wq a O (fun _ c=>R.ld (v:=F) O O (U.clc O O c)) (Wp a O (fun _=>R.mv (v:=vI k) O) ?_))
       obtain⟨D,a9,Y⟩:=ob Y
       refine Wp a O (fun _=>R.ix (α:=Head) e a9 O O O) (Wp a O (fun _=>R.fa O) (Wq a O (fun _ c=>R.ld O O (zaB (Head.at0 (e.at_ a9)).1 O (Head.at0 (e.at_ a9)).str c)) (Wp a O (fun _=>R.fa O) (Wq a O (fun _ c=>R.ld (v:=F) O O (U.clc O O c)) (Wp a O (fun _=>R.mv (v:=vI k) O) (Wp a O (fun _=>R.sub O O) ?_))))))
       obtain⟨E,ba,Y⟩:=ob Y
       exact Wp a O (fun _=>R.ix (α:=Head) e ba O O O) (Wp a O (fun _=>R.fa O) (Wq a O (fun _ c=>R.ld O O (zaB (Head.at0 (e.at_ ba)).1 O (Head.at0 (e.at_ ba)).str c)) (Wp a O (fun _=>R.sle O O) (Wp h O (fun _=>R.pk a O (v:=vB (Op.bytesLess D.Name E.Name||D.Name==E.Name)) O) (Mw.p O O (fun _=>R.pk h O (v:=vB (Op.bytesLess D.Name E.Name||D.Name==E.Name)) O) (Mw.nil ((ag) ⟨(Op.bytesLess D.Name E.Name||D.Name==E.Name),a8,O,((B.j C).j ai).w,O,Y⟩)))))))
      ·exact dps 14 a O (Wp h O (fun _=>R.pk a O (v:=vB false) O) (Mw.p O O (fun _=>R.pk h O (v:=vB false) O) (Mw.nil ((ag) ⟨false,a8,O,((B.j C).j ai).w,O,Y⟩))))
  ·refine Cw.exit ?_
   rw[cp]at Y
   obtain⟨c0,c1,Y⟩:=zbM Y
   refine Cw.join 116 125 [2] (fun l w=> ∃ bb bc,CW.w bc=w/\Le [] y bc/\l=[vB bb]/\c0 bb=some r) ?_ ?_
   ·rintro _ _ σ ⟨bb,bc,rfl,c2,rfl,Y⟩
    rw[c1]at Y
    have c3:=A.n c2
    exact .ret (rt Y c3)
   ·refine rg (fl af O (Lw.ln x0.Commits (ak.ul A) O (Lw.le O (mb O (bs Y (fun V Y=>?_) fun V Y=>?_)))))
    ·exact wak 4 V (fl af O (Lw.ln x0.Heads (am.ul A) O (Lw.le O (Pb V O (Nb O ((ag) ⟨decide (x0.Heads.length<=(5:Int)),y,O,Le.refl _ _,O,Y⟩))))))
    ·exact psk 4 V O (Pb V O (Nb O ((ag) ⟨false,y,O,Le.refl _ _,O,Y⟩)))
theorem p68 {x0 a b r}(d:Rd W K [a,b] x0)(Y:Vm.zdJ x0=some r):Q1 68 [.agg [a,b].toArray] W [] fun W' v=>v=vB r:=
 (c68 (d.view _) Y).ad (fk 0) fun _ _ e=>e
theorem c69 {x0 k x x1 r}(C:Rd W0 [0] [k,x] x0)(Y:Vm.zd0 x0 x1=some r):Q0 69 [.agg [k,x].toArray,vS x1] W0 fun Wf v=>v=vI r:=by
 unfold Vm.zd0 at Y
 obtain⟨J,K,y,L,D⟩:=Repo.split C
 simp only[List.cons.injEq,and_true,true_and]at y
 obtain⟨rfl,rfl⟩:=y
 refine zaz.of Tryz.func69 O O O O (sr (bo 2 O fun M z E F=>?_))
 have G:=E.o
 refine Ni O (ssr (Ni O (Cw.block ?_)))
 obtain⟨H,I,Y⟩:=zbM Y
 refine Cw.loop 6 26 [4,5] (fun m l w=> ∃ b d e,CW.w e=w/\Le [] z e/\l=[vI b,vI d]/\Vm.zc6 x0 x1 H m b d=some r) _ ⟨0,0,z,O,Le.refl _ _,O,Y⟩ ?_
 rintro(_ |N) _ _ σ ⟨b,d,e,rfl,f,rfl,Y⟩
 ·cases Y
 unfold Vm.zc6 at Y
 have h:=G.n f
 have i:=F.up f
 refine ssr ?_
 have a:=D.ul h
 refine mi O (fl i O (Lw.ln x0.Heads a O (Lw.lt O (nl (cn Y (fun Y=>?_) fun Y=>?_)))))
 ·refine sk (Cw.seq (Cw.block (sr (fl i O (mi O ?_)))))
  obtain⟨P,A,Y⟩:=ob Y
  refine Lw.r O (R.ix (α:=Head) a A O O O) (Lw.fa O (Lw.r O (R.ld O O (Head.at0 (a.at_ A)).str) (ms O (Lw.seq O (nl (cn Y (fun Y=>?_) fun Y=>?_))))))
  ·refine sr (fl i O (mi O ?_))
   obtain⟨Q,B,Y⟩:=ob Y
   exact Lw.r O (R.ix (α:=Head) a B O O O) (Lw.fa O (Lw.r O (R.ld O O (Head.at1 (a.at_ B)).int) (Ni O (.ret (rt Y h)))))
  ·exact sk (rg (mi O (Lw.add O (Ni O ((agm) ⟨b,w64 (d+1),e,O,f,O,Y⟩)))))
 ·refine Cw.exit ?_
  rw[I]at Y
  exact sr (Ni O (.ret (rt Y h)))
theorem p69 {x0 a b x1 r}(d:Rd W K [a,b] x0)(Y:Vm.zd0 x0 x1=some r):Q1 69 [.agg [a,b].toArray,vS x1] W [] fun W' v=>v=vI r:=
 (c69 (d.view _) Y).ad (fk 0) fun _ _ e=>e
theorem c161 {x0 a x1 r}(b:Rd W0 [0] [a] x0)(Y:Vm.zdi x0 x1=some r):Q0 161 [a,vS x1] W0 fun Wf v=> ∃ F,v=F/\Rd Wf [0] [F] r:=by
 unfold Vm.zdi at Y
 refine zaz.of Tryz.func161 O O O O (sr (Nv (.slice none 0 0) O (sr (Ni O (Cw.seq (Cw.block ?_))))))
 obtain⟨S,U,Y⟩:=zbM Y
 refine Cw.loop 7 20 [5] (fun m l w=> ∃ i e,CW.w e=w/\Le [] W0 e/\l=[vI i]/\Vm.zcn x0 x1 S m i=some r) _ ⟨0,W0,O,Le.refl _ _,O,Y⟩ ?_
 rintro(_ |m4) _ _ σ ⟨i,e,rfl,G,rfl,Y⟩
 ·cases Y
 unfold Vm.zcn at Y
 have k:=G.o
 refine Cw.seq ?_
 obtain⟨V,W,Y⟩:=zbM Y
 refine Cw.join 7 18 [18] (fun l w=> ∃ y d,CW.w d=w/\Le [] e d/\l=[vB y]/\V y=some r) ?_ ?_
 ·rintro _ _ σ ⟨y,d,rfl,H,rfl,Y⟩
  rw[W]at Y
  have x:=k.n H
  refine cn Y (fun Y=>?_) fun Y=>?_
  ·exact sk (Cw.block (rg (mi O (Lw.add O (Ni O ((agm) ⟨w64 (i+1),d,O,(G.j H).w,O,Y⟩))))))
  ·refine Cw.exit ?_
   rw[U]at Y
   refine Cw.seq ?_
   obtain⟨X,Z,Y⟩:=zbM Y
   refine Cw.join 21 32 [32] (fun l w=> ∃ z A,CW.w A=w/\Le [] d A/\l=[vB z]/\X z=some r) ?_ ?_
   ·rintro _ _ σ ⟨z,A,rfl,aa,rfl,Y⟩
    rw[Z]at Y
    have B:=x.n aa
    refine cn Y (fun Y=>?_) fun Y=>?_
    ·refine sr (mv a O (Nv a O ?_))
     cases Y
     exact Cw.ret (zkN O (Res.mk B ⟨a,O,(b.ul B)⟩))
    ·refine sk (sr (Lw.t O (T.lit0 (α:=Str) 2 []) ?_))
     rintro a7 _ ⟨a8,rfl,ac,ae⟩
     have C:=B.n ac
     refine mv a O (mi O ?_)
     obtain⟨ba,I,Y⟩:=ob Y
     have r23:=(b.ul C).cutV I
     refine Lw.r O (R.sl (b.ul C) I O (.inl ⟨O,O⟩) (.inr O)) ?_
     obtain⟨bb,af,Y⟩:=ob Y
     refine Lw.t O (T.appP (α:=Str) ae r23 O O af) ?_
     rintro J _ ⟨bc,rfl,ah,ai⟩
     have aj:=C.t ah
     refine Nv J O (sr (mv J O (ms O (Lw.t O (T.bs 3 [vS x1] (cs:=[vS x1]) O O (bsv O)) ?_))))
     rintro _ _ ⟨be,bg,rfl,rfl,K,ak⟩
     have am:=aj.n K
     obtain⟨bh,an,Y⟩:=ob Y
     refine Lw.t O (T.app1S (α:=Str) (K':=[]) (ai.up K) ak (rdS _) O O an) ?_
     rintro L _ ⟨bi,rfl,ao,ap⟩
     have D:=am.t ao
     refine Nv L O (sr (mv L O (mv a O (mi O ?_))))
     obtain⟨bj,N,Y⟩:=ob Y
     have r40:=(b.ul D).cutV N
     refine Lw.r O (R.sl (b.ul D) N O (.inr O) (.inl ⟨O,O⟩)) ?_
     obtain⟨aq,ar,Y⟩:=ob Y
     refine Lw.t O (T.appP (α:=Str) ap r40 O O ar) ?_
     rintro E _ ⟨bk,rfl,au,av⟩
     have aw:=D.t au
     refine Nv E O ?_
     obtain⟨ax,ay,az,a0⟩:=zn3 _ 2
     have a1:Rd (α:=List Str) ax [0] [E] aq:=by rw[a0];exact(av.rd.dye 2).sub (M:=[0]) O
     have a2:=aw.t az
     cases Y
     rw[<- ay]
     exact Cw.ret (zkN O (Res.mk a2 ⟨E,O,a1⟩))
   ·refine rg (mi O (mv a O (Lw.ln x0 (b.ul x) O (Lw.lt O (mb O (bs Y (fun f Y=>?_) fun f Y=>?_))))))
    ·refine wak 6 f (mv a O (mi O ?_))
     obtain⟨a3,P,Y⟩:=ob Y
     exact Lw.r O (R.ix (α:=Str) (b.ul x) P O O O) (Lw.r O (R.ld O O ((b.ul x).at_ P).str) (ms O (Lw.seq O (Pb f O (nl ((ag) ⟨(a3==x1),d,O,Le.refl _ _,O,Y⟩))))))
    ·exact psk 6 f O (Pb f O (nl ((ag) ⟨false,d,O,Le.refl _ _,O,Y⟩)))
 ·refine rg (mi O (mv a O (Lw.ln x0 (b.ul k) O (Lw.lt O (mb O (bs Y (fun h Y=>?_) fun h Y=>?_))))))
  ·refine wak 6 h (mv a O (mi O ?_))
   obtain⟨a4,Q,Y⟩:=ob Y
   exact Lw.r O (R.ix (α:=Str) (b.ul k) Q O O O) (Lw.r O (R.ld O O ((b.ul k).at_ Q).str) (ms O (Lw.r O (R.slt O O) (Pb h O (nl ((ag) ⟨Op.bytesLess a4 x1,e,O,Le.refl _ _,O,Y⟩))))))
  ·exact psk 6 h O (Pb h O (nl ((ag) ⟨false,e,O,Le.refl _ _,O,Y⟩)))
theorem p161 {x0 b x1 r}(d:Rd W K [b] x0)(Y:Vm.zdi x0 x1=some r):Q1 161 [b,vS x1] W [] fun W' v=> ∃ a,v=a/\Rd W' (0::K) [a] r:=
 (c161 (d.view _) Y).ad (fk 0) fun _ _ ⟨a,e,f⟩=>⟨a,e,f.back O⟩
theorem c216 {x0 a x1 r}(C:Rd W0 [0] [a] x0)(Y:Vm.zej x0 x1=some r):Q0 216 [a,vS x1] W0 fun Wf v=> ∃ x,v = .tuple [x,vB r.2].toArray/\Rd Wf [0] [x] r.1:=by
 unfold Vm.zej at Y
 refine zaz.of Tryz.func216 O O O O (sr (Gv (.slice none 0 0) O (Nb O (ssr (Ni O (Cw.block ?_))))))
 obtain⟨D,E,Y⟩:=zbM Y
 refine Cw.loop 7 24 [4,5,6] (fun m l w=> ∃ e f h i b,CW.w b=w/\Le [] W0 b/\l=[i,vB f,vI h]/\Ow b 2 [] [i] e/\Vm.zco x0 x1 D m e f h=some r) _ ⟨([]:List Str),false,0, .slice none 0 0,W0,O,Le.refl _ _,O,owN 2 [],Y⟩ ?_
 rintro(_ |G) _ _ σ ⟨e,f,h,i,b,rfl,y,rfl,F,Y⟩
 ·cases Y
 unfold Vm.zco at Y
 have k:=y.o
 refine ssr ?_
 have d:=C.ul k
 refine mi O (mv a O (Lw.ln x0 d O (Lw.lt O (nl (cn Y (fun Y=>?_) fun Y=>?_)))))
 ·refine sk (Cw.seq (Cw.block (sr (mv a O (mi O ?_)))))
  obtain⟨H,z,Y⟩:=ob Y
  refine Lw.r O (R.ix (α:=File) d z O O O) (Lw.fa O (Lw.r O (R.ld O O (File.at0 (d.at_ z)).str) (ms O (Lw.seq O (nl (cn Y (fun Y=>?_) fun Y=>?_))))))
  ·refine sr (mv a O (mi O ?_))
   obtain⟨I,A,Y⟩:=ob Y
   refine Lw.r O (R.ix (α:=File) d A O O O) (Lw.fa O ?_)
   obtain⟨B,c18,r19⟩:=(File.at1 (d.at_ A)).cell O
   refine Lw.r O (R.ld O O c18) (Gv B O (Nb O ?_))
   cases Y
   exact Cw.ret (zp3 O O (Res.mk k ⟨B,O,r19⟩))
  ·exact sk (rg (mi O (Lw.add O (Ni O ((agm) ⟨e,f,w64 (h+1),i,b,O,y,O,F,Y⟩)))))
 ·refine Cw.exit ?_
  rw[E]at Y
  refine sr (Gv (.slice none 0 0) O (Nb O ?_))
  cases Y
  exact Cw.ret (zp3 O O (Res.mk k ⟨.slice none 0 0,O,(rdN (K:=[0]))⟩))
theorem p216 {x0 b x1 r}(d:Rd W K [b] x0)(Y:Vm.zej x0 x1=some r):Q1 216 [b,vS x1] W [] fun W' v=> ∃ a,v = .tuple [a,vB r.2].toArray/\Rd W' (0::K) [a] r.1:=
 (c216 (d.view _) Y).ad (fk 0) fun _ _ ⟨a,e,f⟩=>⟨a,e,f.back O⟩
theorem c217 {x0 b x1 e r}(d:Rd W0 [0] [b] x0)(f:Rd W0 [0] [e] x1)(Y:Vm.zdD x0 x1=some r):Q0 217 [b,e] W0 fun Wf v=>v=vB r:=by
 unfold Vm.zdD at Y
 refine zaz.of Tryz.func217 O O O O (sr (Nb O (ssr (mv b O (Lw.ln x0 d O (mv e O (Lw.ln x1 f O (Lw.ne O (nl (cn Y (fun Y=>?_) fun Y=>?_))))))))))
 ·exact sr (Nb O (.ret (rt Y (Le.refl _ _))))
 ·refine sk (ssr (Ni O (Cw.block ?_)))
  obtain⟨B,C,Y⟩:=zbM Y
  refine Cw.loop 11 25 [4,5] (fun m l w=> ∃ h i k,CW.w k=w/\Le [] W0 k/\l=[vB h,vI i]/\Vm.zbX x0 x1 B m h i=some r) _ ⟨false,0,W0,O,Le.refl _ _,O,Y⟩ ?_
  rintro(_ |E) _ _ σ ⟨h,i,k,rfl,A,rfl,Y⟩
  ·cases Y
  unfold Vm.zbX at Y
  have x:=A.o
  refine ssr (mi O (mv b O (Lw.ln x0 (d.ul x) O (Lw.lt O (nl (cn Y (fun Y=>?_) fun Y=>?_))))))
  ·refine sk (Cw.seq (Cw.block (Cw.seq (Cw.draw [] [(0,0),(1,0),(2,0),(3,1),(4,0),(5,0),(6,0),(7,1),(8,0)] mixed (by kernel_rfl) fun D l10=>?_))))
   have a:=x.n l10
   refine Dv b O (Di O ?_)
   obtain⟨F,y,Y⟩:=ob Y
   refine Mw.p O O (fun _=>R.ix (α:=Str) (d.ul a) y O O O) (Mw.q O O (fun _ c=>R.ld O O (zaB ((d.ul a).at_ y).1 O ((d.ul a).at_ y).str c)) (Dv e O (Di O ?_)))
   obtain⟨G,z,Y⟩:=ob Y
   refine Mw.p O O (fun _=>R.ix (α:=Str) (f.ul a) z O O O) (Mw.q O O (fun _ c=>R.ld O O (zaB ((f.ul a).at_ z).1 O ((f.ul a).at_ z).str c)) (Mw.p O O (fun _=>R.sne O O) (Mw.nil (cn Y (fun Y=>?_) fun Y=>?_))))
   ·exact sr (Nb O (.ret (rt Y a)))
   ·exact sk (rg (mi O (Lw.add O (Ni O ((agm) ⟨h,w64 (i+1),D,O,(A.j l10).w,O,Y⟩)))))
  ·refine Cw.exit ?_
   rw[C]at Y
   exact sr (Nb O (.ret (rt Y x)))
theorem p217 {x0 a x1 b r}(d:Rd W K [a] x0)(f:Rd W K [b] x1)(Y:Vm.zdD x0 x1=some r):Q1 217 [a,b] W [] fun W' v=>v=vB r:=
 (c217 (d.view _) (f.view _) Y).ad (fk 0) fun _ _ e=>e
theorem c271 {x0 z x1 A r}(B:Rd W0 [0] [z] x0)(C:Rd W0 [0] [A] x1)(Y:Vm.zep x0 x1=some r):Q0 271 [z,A] W0 fun Wf v=> ∃ u0,v=u0/\OwS Wf LL [] [u0] r:=by
 unfold Vm.zep at Y
 refine zaz.of Tryz.func271 O O O O (sr (Nv (.slice none 0 0) O (sr (Lw.t O (T.lit0 (α:=List Int) 2 []) ?_))))
 rintro v1 _ ⟨W1,rfl,l1,o1⟩
 have a2:=l1.o
 refine Nv v1 O (ssr (Ni O (Cw.block ?_)))
 obtain⟨K8,bj,Y⟩:=zbM Y
 refine Cw.loop 10 22 [5,6] (fun m l w=> ∃ G H a h,CW.w h=w/\Le [2,3] W1 h/\l=[a,vI H]/\Ow h 2 [] [a] G/\Vm.zbD x0 x1 K8 m G H=some r) _ ⟨([]:List (List Int)),0,v1,W1,O,Le.refl _ _,O,o1,Y⟩ ?_
 rintro(_ |m9) _ _ σ ⟨G,H,a,h,rfl,l7,rfl,o5,Y⟩
 ·cases Y
 unfold Vm.zbD at Y
 have I:=a2.t l7
 refine ssr (mi O (mv z O (Lw.ln x0 (B.ul I) O (Lw.le O (nl (cn Y (fun Y=>?_) fun Y=>?_))))))
 ·refine sk (Cw.seq (Cw.block (rg (mv a O (mv A O (Lw.ln x1 (C.ul I) O (Lw.add O ?_)))))))
  obtain⟨c7,bk,Y⟩:=ob Y
  refine Lw.t O (T.mk (α:=Int) 3 [] (n:=w64 ((x1.length:Int)+1)) O O bk) ?_
  rintro ax _ ⟨c8,rfl,ay,S⟩
  refine Lw.t O (T.bs 4 [ax] (cs:=[ax]) (bsc S.oc) O (bsv S.oc)) ?_
  rintro _ _ ⟨c9,da,rfl,rfl,U,bl⟩
  obtain⟨bm,bn,Y⟩:=ob Y
  refine Lw.t O (T.app1 (α:=List Int) (J:=[3]) (K':=[]) ((o5.up ay).up U) bl (S.up U).s O O bn) ?_
  rintro az _ ⟨bp,rfl,bq,br⟩
  exact Nv az O (rg (mi O (Lw.add O (Ni O ((agm) ⟨bm,w64 (H+1),az,bp,O,(((l7.j ay).j U).j bq).w,O,br,Y⟩)))))
 ·refine Cw.exit ?_
  rw[bj]at Y
  refine ssr (mv z O (Lw.ln x0 (B.ul I) O (Lw.sub O (Ni O (Cw.block ?_)))))
  obtain⟨bu,bv,Y⟩:=zbM Y
  refine Cw.loop 26 108 [7,8] (fun m l w=> ∃ D K a0 i,CW.w i=w/\Le [2,5,6,7] h i/\l=[vI D,a0]/\Ow i 2 [] [a] K/\Vm.za9 x0 x1 bu m D K=some r) _ ⟨w64 ((x0.length:Int)-1),G,undef,h,O,Le.refl _ _,O,o5,Y⟩ ?_
  rintro(_ |db) _ _ σ ⟨D,K,a0,i,rfl,a1,rfl,a3,Y⟩
  ·cases Y
  unfold Vm.za9 at Y
  have V:=I.t a1
  refine ssr (mi O (Lw.ge O (nl (cn Y (fun Y=>?_) fun Y=>?_))))
  ·refine sk (Cw.seq (Cw.block (sr (mv A O (Lw.ln x1 (C.ul V) O (Lw.sub O (Ni O (Cw.block ?_))))))))
   obtain⟨bw,bz,Y⟩:=zbM Y
   refine Cw.loop 33 108 [8] (fun m l w=> ∃ E L k,CW.w k=w/\Le [2,5,6,7] i k/\l=[vI E]/\Ow k 2 [] [a] L/\Vm.zbC x0 x1 D bw m E L=some r) _ ⟨w64 ((x1.length:Int)-1),K,i,O,Le.refl _ _,O,a3,Y⟩ ?_
   rintro(_ |dc) _ _ σ ⟨E,L,k,rfl,W,rfl,X,Y⟩
   ·cases Y
   unfold Vm.zbC at Y
   have b0:=V.t W
   refine ssr (mi O (Lw.ge O (nl (cn Y (fun Y=>?_) fun Y=>?_))))
   ·refine sk ?_
    obtain⟨b1,b2,Y⟩:=zbM Y
    refine Cw.join 37 108 [] (fun l w=> ∃ M F,CW.w F=w/\Le [2,5,6,7] k F/\l=[]/\Ow F 2 [] [a] M/\b1 M=some r) ?_ ?_
    ·rintro _ _ σ ⟨M,F,rfl,b3,rfl,b4,Y⟩
     rw[b2]at Y
     exact rg (mi O (Lw.sub O (Ni O ((agm) ⟨w64 (E-1),M,F,O,(W.j b3).w,O,b4,Y⟩))))
    ·refine Cw.block (Cw.block (Cw.seq (Cw.draw [] [(0,0),(1,0),(2,0),(3,1),(4,0),(5,0),(6,0),(7,1),(8,0),(9,0)] mixed (by kernel_rfl) fun dd x=>?_)))
     have y:=b0.n x
     refine Dv z O (Di O ?_)
     obtain⟨de,Z,Y⟩:=ob Y
     refine Mw.p O O (fun _=>R.ix (α:=Str) (B.ul y) Z O O O) (Mw.q O O (fun _ c=>R.ld O O (zaB ((B.ul y).at_ Z).1 O ((B.ul y).at_ Z).str c)) (Dv A O (Di O ?_)))
     obtain⟨df,aa,Y⟩:=ob Y
     refine Mw.p O O (fun _=>R.ix (α:=Str) (C.ul y) aa O O O) (Mw.q O O (fun _ c=>R.ld O O (zaB ((C.ul y).at_ aa).1 O ((C.ul y).at_ aa).str c)) (Mw.p O O (fun _=>R.seq O O) (Hb O (Mw.nil (cn Y (fun Y=>?_) fun Y=>?_)))))
     ·refine Cw.draw [] [(0,0),(1,0),(2,0),(3,1),(4,0),(5,0),(6,0),(7,0),(8,0),(9,1),(10,0),(11,0),(12,0),(13,1),(14,0),(15,0),(16,3)] mixed (by kernel_rfl) fun dg a4=>?_
      have d:=(X.up x).up a4
      refine Dv a O (Di O ?_)
      obtain⟨u64,N,Y⟩:=ob Y
      refine Mw.p O O (fun _=>R.ix (α:=List Int) d.rd N O O O) ?_
      obtain⟨dh,c67,r68⟩:=(d.rd.at_ N).cell O
      refine Mw.q O O (fun _ c=>R.ld O O (zaB (d.rd.at_ N).1 O c67 c)) (Di O (Dv a O (Di O (Mw.p O O (fun _=>R.add O O) ?_))))
      obtain⟨di,ac,Y⟩:=ob Y
      refine Mw.p O O (fun _=>R.ix (α:=List Int) d.rd ac O O O) ?_
      obtain⟨dj,c72,r73⟩:=(d.rd.at_ ac).cell O
      refine Mw.q O O (fun _ c=>R.ld O O (zaB (d.rd.at_ ac).1 O c72 c)) (Di O (Mw.p O O (fun _=>R.add O O) ?_))
      obtain⟨dk,ae,Y⟩:=ob Y
      refine Mw.p O O (fun _=>R.ix (α:=Int) r73 ae O O O) (Mw.q O O (fun _ c=>R.ld O O (zaB (r73.at_ ae).1 O (r73.at_ ae).int c)) (Mw.p O O (fun _=>R.add O O) ?_))
      obtain⟨dl,b5,Y⟩:=ob Y
      refine Mw.p O O (fun _=>R.ix (α:=Int) r68 b5 O O O) ?_
      obtain⟨dm,b6,b7,b8,gb78⟩:=Ow.lend (α:=List Int) (β:=List Int) (j:=5) (jf:=0) d N (by rw[zlF];exact c67) O
      rw[<- b6]
      obtain⟨dn,b9,Y⟩:=ob Y
      refine Mw.lu O (T.stS (K':=[]) b8 (rdI _) b9 O O O) ?_
      rintro _ _ ⟨dp,rfl,a5,cb⟩
      obtain⟨cc,cd,ce,cf,eq85,cg⟩:=gb78 _ _ a5 cb
      obtain⟨a6,eqm85,Y⟩:=ob Y
      obtain rfl:a6=cf:=Option.some.inj (eqm85.symm.trans eq85)
      rw[<- cd]
      exact Mw.nil ((ag) ⟨a6,cc,O,((((x.j a4).j b7).j a5).j ce).w,O,cg,Y⟩)
     ·refine Cw.seq (Cw.draw [] [(0,0),(1,0),(2,0),(3,0),(4,1),(5,0),(6,0),(7,1),(8,0),(9,0),(10,0),(11,1),(12,0),(13,0),(14,0),(15,1),(16,0),(17,0)] mixed (by kernel_rfl) fun dq af=>?_)
      have b:=(X.up x).up af
      refine Dv a O (Di O (Mw.p O O (fun _=>R.add O O) ?_))
      obtain⟨dr,ah,Y⟩:=ob Y
      refine Mw.p O O (fun _=>R.ix (α:=List Int) b.rd ah O O O) ?_
      obtain⟨ds,c93,r94⟩:=(b.rd.at_ ah).cell O
      refine Mw.q O O (fun _ c=>R.ld O O (zaB (b.rd.at_ ah).1 O c93 c)) (Di O ?_)
      obtain⟨dt,ai,Y⟩:=ob Y
      refine Mw.p O O (fun _=>R.ix (α:=Int) r94 ai O O O) (Mw.q O O (fun _ c=>R.ld O O (zaB (r94.at_ ai).1 O (r94.at_ ai).int c)) (Dv a O (Di O ?_)))
      obtain⟨du,aj,Y⟩:=ob Y
      refine Mw.p O O (fun _=>R.ix (α:=List Int) b.rd aj O O O) ?_
      obtain⟨dv,c100,r101⟩:=(b.rd.at_ aj).cell O
      refine Mw.q O O (fun _ c=>R.ld O O (zaB (b.rd.at_ aj).1 O c100 c)) (Di O (Mw.p O O (fun _=>R.add O O) ?_))
      obtain⟨dw,ak,Y⟩:=ob Y
      refine Mw.p O O (fun _=>R.ix (α:=Int) r101 ak O O O) (Mw.q O O (fun _ c=>R.ld O O (zaB (r101.at_ ak).1 O (r101.at_ ak).int c)) (Mw.p O O (fun _=>R.ge O O) (Hb O (Mw.nil (cn Y (fun Y=>?_) fun Y=>?_)))))
      ·refine Cw.draw [] [(0,0),(1,0),(2,0),(3,1),(4,0),(5,0),(6,0),(7,0),(8,0),(9,1),(10,0),(11,0),(12,1),(13,0),(14,3)] mixed (by kernel_rfl) fun dx a7=>?_
       have e:=b.up a7
       refine Dv a O (Di O ?_)
       obtain⟨dy,P,Y⟩:=ob Y
       refine Mw.p O O (fun _=>R.ix (α:=List Int) e.rd P O O O) ?_
       obtain⟨dz,c111,r112⟩:=(e.rd.at_ P).cell O
       refine Mw.q O O (fun _ c=>R.ld O O (zaB (e.rd.at_ P).1 O c111 c)) (Di O (Dv a O (Di O (Mw.p O O (fun _=>R.add O O) ?_))))
       obtain⟨d0,am,Y⟩:=ob Y
       refine Mw.p O O (fun _=>R.ix (α:=List Int) e.rd am O O O) ?_
       obtain⟨d1,c116,r117⟩:=(e.rd.at_ am).cell O
       refine Mw.q O O (fun _ c=>R.ld O O (zaB (e.rd.at_ am).1 O c116 c)) (Di O ?_)
       obtain⟨d2,an,Y⟩:=ob Y
       refine Mw.p O O (fun _=>R.ix (α:=Int) r117 an O O O) (Mw.q O O (fun _ c=>R.ld O O (zaB (r117.at_ an).1 O (r117.at_ an).int c)) ?_)
       obtain⟨d3,ch,Y⟩:=ob Y
       refine Mw.p O O (fun _=>R.ix (α:=Int) r112 ch O O O) ?_
       obtain⟨d4,ci,cj,ck,gb122⟩:=Ow.lend (α:=List Int) (β:=List Int) (j:=6) (jf:=0) e P (by rw[zlF];exact c111) O
       rw[<- ci]
       obtain⟨d5,cl,Y⟩:=ob Y
       refine Mw.lu O (T.stS (K':=[]) ck (rdI _) cl O O O) ?_
       rintro _ _ ⟨d6,rfl,a8,cm⟩
       obtain⟨co,cp,cq,ct,eq129,cu⟩:=gb122 _ _ a8 cm
       obtain⟨a9,eqm129,Y⟩:=ob Y
       obtain rfl:a9=ct:=Option.some.inj (eqm129.symm.trans eq129)
       rw[<- cp]
       exact Mw.nil ((ag) ⟨a9,co,O,(((((x.j af).j a7).j cj).j a8).j cq).w,O,cu,Y⟩)
      ·refine Cw.draw [] [(0,0),(1,0),(2,0),(3,1),(4,0),(5,0),(6,0),(7,0),(8,1),(9,0),(10,0),(11,0),(12,1),(13,0),(14,3)] mixed (by kernel_rfl) fun d7 ba=>?_
       have f:=b.up ba
       refine Dv a O (Di O ?_)
       obtain⟨d8,Q,Y⟩:=ob Y
       refine Mw.p O O (fun _=>R.ix (α:=List Int) f.rd Q O O O) ?_
       obtain⟨d9,c137,r138⟩:=(f.rd.at_ Q).cell O
       refine Mw.q O O (fun _ c=>R.ld O O (zaB (f.rd.at_ Q).1 O c137 c)) (Di O (Dv a O (Di O ?_)))
       obtain⟨ea,ao,Y⟩:=ob Y
       refine Mw.p O O (fun _=>R.ix (α:=List Int) f.rd ao O O O) ?_
       obtain⟨eb,c142,r143⟩:=(f.rd.at_ ao).cell O
       refine Mw.q O O (fun _ c=>R.ld O O (zaB (f.rd.at_ ao).1 O c142 c)) (Di O (Mw.p O O (fun _=>R.add O O) ?_))
       obtain⟨ec,ap,Y⟩:=ob Y
       refine Mw.p O O (fun _=>R.ix (α:=Int) r143 ap O O O) (Mw.q O O (fun _ c=>R.ld O O (zaB (r143.at_ ap).1 O (r143.at_ ap).int c)) ?_)
       obtain⟨ed,cv,Y⟩:=ob Y
       refine Mw.p O O (fun _=>R.ix (α:=Int) r138 cv O O O) ?_
       obtain⟨ee,cw,cx,cy,gb148⟩:=Ow.lend (α:=List Int) (β:=List Int) (j:=7) (jf:=0) f Q (by rw[zlF];exact c137) O
       rw[<- cw]
       obtain⟨ef,cz,Y⟩:=ob Y
       refine Mw.lu O (T.stS (K':=[]) cy (rdI _) cz O O O) ?_
       rintro _ _ ⟨eg,rfl,bb,c0⟩
       obtain⟨c1,c2,c3,c4,eq155,c5⟩:=gb148 _ _ bb c0
       obtain⟨bc,eqm155,Y⟩:=ob Y
       obtain rfl:bc=c4:=Option.some.inj (eqm155.symm.trans eq155)
       rw[<- c2]
       exact Mw.nil ((ag) ⟨bc,c1,O,(((((x.j af).j ba).j cx).j bb).j c3).w,O,c5,Y⟩)
   ·refine Cw.exit ?_
    rw[bz]at Y
    exact rg (mi O (Lw.sub O (Ni O ((agm) ⟨w64 (D-1),L,vI E,k,O,(a1.j W).w,O,X,Y⟩))))
  ·refine Cw.exit ?_
   rw[bv]at Y
   refine sr (mv a O (Nv a O ?_))
   cases Y
   exact Cw.ret (zkN O (Res.mk V ⟨a,O,a3.s.sub O O⟩))
theorem p271 {x0 b x1 d k0 r}(f:Rd W K [b] x0)(h:Rd W K [d] x1)(Y:Vm.zep x0 x1=some r):Q1 271 [b,d] W [] fun W' v=> ∃ a,v=a/\Ow W' k0 [] [a] r:=
 (c271 (f.view _) (h.view _) Y).ad (fk k0) fun _ _ ⟨a,e,i⟩=>⟨a,e,i.back (ziQ _)⟩
theorem c245 {x0 x x1 i r}(y:Rd W0 [0] [x] x0)(I:Rd W0 [0] [i] x1)(Y:Vm.zdL x0 x1=some r):Q0 245 [x,i] W0 fun Wf v=> ∃ Z,v=Z/\OwS Wf LL [] [Z] r:=by
 unfold Vm.zdL at Y
 refine zaz.of Tryz.func245 O O O O (sr (Nv (.slice none 0 0) O (sr (mv x O (mv i O (cr Y (fun _=>p271 (k0:=2) y I) ?_))))))
 rintro z1 J W3 Y l3 ⟨_,rfl,aw⟩
 have a4:=l3.o
 refine Nv J O (sr (Lw.t O (T.lit0 (α:=Int) 3 []) ?_))
 rintro v5 _ ⟨W5,rfl,l5,o5⟩
 have a6:=a4.n l5
 refine Nv v5 O (sr (Ni O (ssr (Ni O (Cw.block ?_)))))
 obtain⟨a0,a1,Y⟩:=zbM Y
 refine Cw.loop 13 71 [6,7,8] (fun m l w=> ∃ B d e f z,CW.w z=w/\Le [3] W5 z/\l=[f,vI d,vI e]/\Ow z 3 [] [f] B/\Vm.zct x0 x1 z1 a0 m B d e=some r) _ ⟨([]:List Int),0,0,v5,W5,O,Le.refl _ _,O,o5,Y⟩ ?_
 rintro(_ |bq) _ _ σ ⟨B,d,e,f,z,rfl,A,rfl,K,Y⟩
 ·cases Y
 unfold Vm.zct at Y
 have C:=a6.t A
 refine ssr (mi O (mv x O (Lw.ln x0 (y.ul C) O (Lw.lt O (nl (cn Y (fun Y=>?_) fun Y=>?_))))))
 ·refine sk (Cw.block (Cw.block ?_))
  obtain⟨a2,a3,Y⟩:=zbM Y
  refine Cw.join 19 34 [19] (fun l w=> ∃ L D,CW.w D=w/\Le [] z D/\l=[vB L]/\a2 L=some r) ?_ ?_
  ·rintro _ _ σ ⟨L,D,rfl,h,rfl,Y⟩
   rw[a3]at Y
   have a5:=C.n h
   refine cn Y (fun Y=>?_) fun Y=>?_
   ·refine sr (mv f O (mi O (Lw.t O (T.bs 4 [vI d] (cs:=[vI d]) O O (bsv O)) ?_)))
    rintro _ _ ⟨br,bu,rfl,rfl,af,a7⟩
    obtain⟨a8,a9,Y⟩:=ob Y
    refine Lw.t O (T.app1S (α:=Int) (K':=[]) ((K.up h).up af) a7 (rdI _) O O a9) ?_
    rintro ah _ ⟨ba,rfl,bb,bc⟩
    exact Nv ah O (sr (mi O (Lw.add O (Ni O (rg (mi O (Lw.add O (Ni O ((agm) ⟨a8,w64 (d+1),w64 (e+1),ah,ba,O,(((A.j h).j af).j bb).w,O,bc,Y⟩)))))))))
   ·obtain⟨be,bg,Y⟩:=zbM Y
    refine Cw.join 43 66 [43] (fun l w=> ∃ M E,CW.w E=w/\Le [] D E/\l=[vB M]/\be M=some r) ?_ ?_
    ·rintro _ _ σ ⟨M,E,rfl,N,rfl,Y⟩
     rw[bg]at Y
     have ai:=(K.up h).up N
     refine cn Y (fun Y=>?_) fun Y=>?_
     ·refine sr (mv f O (Lw.t O (T.bs 5 [vI (-1)] (cs:=[vI (-1)]) O O (bsv O)) ?_))
      rintro _ _ ⟨bv,bw,rfl,rfl,aj,bh⟩
      obtain⟨bi,bj,Y⟩:=ob Y
      refine Lw.t O (T.app1S (α:=Int) (K':=[]) (ai.up aj) bh (rdI _) O O bj) ?_
      rintro ak _ ⟨bk,rfl,bl,bm⟩
      exact Nv ak O (rg (mi O (Lw.add O (Ni O ((agm) ⟨bi,d,w64 (e+1),ak,bk,O,((((A.j h).j N).j aj).j bl).w,O,bm,Y⟩)))))
     ·exact rg (mi O (Lw.add O (Ni O ((agm) ⟨B,w64 (d+1),e,f,E,O,((A.j h).j N).w,O,ai,Y⟩))))
    ·refine Cw.draw [] [(0,0),(1,0),(2,0),(3,0),(4,0),(5,0),(6,0),(7,0),(8,0),(9,1),(10,0),(11,0),(12,1),(13,0),(14,0),(15,0),(16,1),(17,0),(18,0),(19,0),(20,1),(21,0),(22,0),(23,0)] mixed (by kernel_rfl) fun am F=>?_
     have bn:=a5.n F
     have k:=(((aw.up l5).up A).up h).up F
     refine Di O (Dv i O (Mw.p O O (fun _=>ztT (xs:=x1) (I.ul bn) O) (Mw.p O O (fun _=>R.ge O O) (Db O (bs Y (fun a Y=>?_) fun a Y=>?_)))))
     ·exact dps 17 a O (Mw.p O O (fun _=>R.pk a O (v:=vB true) O) (Hb O (Mw.nil ((ag) ⟨true,am,O,F,O,Y⟩))))
     ·refine Wp a O (fun _=>R.mv (v:=J) O) (Wp a O (fun _=>R.mv (v:=vI e) O) (Wp a O (fun _=>R.add O O) ?_))
      obtain⟨bz,P,Y⟩:=ob Y
      refine Wp a O (fun _=>R.ix (α:=List Int) k.rd P O O O) ?_
      obtain⟨b0,c63,r64⟩:=(k.rd.at_ P).cell O
      refine Wq a O (fun _ c=>R.ld O O (zaB (k.rd.at_ P).1 O c63 c)) (Wp a O (fun _=>R.mv (v:=vI d) O) ?_)
      obtain⟨an,Q,Y⟩:=ob Y
      refine Wp a O (fun _=>R.ix (α:=Int) r64 Q O O O) (Wq a O (fun _ c=>R.ld O O (zaB (r64.at_ Q).1 O (r64.at_ Q).int c)) (Wp a O (fun _=>R.mv (v:=J) O) (Wp a O (fun _=>R.mv (v:=vI e) O) ?_)))
      obtain⟨b1,S,Y⟩:=ob Y
      refine Wp a O (fun _=>R.ix (α:=List Int) k.rd S O O O) ?_
      obtain⟨b2,c70,r71⟩:=(k.rd.at_ S).cell O
      refine Wq a O (fun _ c=>R.ld O O (zaB (k.rd.at_ S).1 O c70 c)) (Wp a O (fun _=>R.mv (v:=vI d) O) (Wp a O (fun _=>R.add O O) ?_))
      obtain⟨ao,U,Y⟩:=ob Y
      exact Wp a O (fun _=>R.ix (α:=Int) r71 U O O O) (Wq a O (fun _ c=>R.ld O O (zaB (r71.at_ U).1 O (r71.at_ U).int c)) (Wp a O (fun _=>R.ge O O) (Mw.p O O (fun _=>R.pk a O (v:=vB (decide (ao<=(an:Int)))) O) (Hb O (Mw.nil ((ag) ⟨decide (ao<=(an:Int)),am,O,F,O,Y⟩))))))
  ·refine Cw.draw [] [(0,0),(1,0),(2,0),(3,0),(4,0),(5,0),(6,0),(7,0),(8,1),(9,0),(10,0),(11,0),(12,1),(13,0),(14,0),(15,0)] mixed (by kernel_rfl) fun ap V=>?_
   have G:=C.n V
   have H:=I.ul G
   refine Di O (Dv i O (Mw.p O O (fun _=>ztT (xs:=x1) H O) (Mw.p O O (fun _=>R.lt O O) (Db O (bs Y (fun b Y=>?_) fun b Y=>?_)))))
   ·refine Wp b O (fun _=>R.mv (v:=x) O) (Wp b O (fun _=>R.mv (v:=vI e) O) ?_)
    obtain⟨aq,W,Y⟩:=ob Y
    refine Wp b O (fun _=>R.ix (α:=Str) (y.ul G) W O O O) (Wq b O (fun _ c=>R.ld O O (zaB ((y.ul G).at_ W).1 O ((y.ul G).at_ W).str c)) (Wp b O (fun _=>R.mv (v:=i) O) (Wp b O (fun _=>R.mv (v:=vI d) O) ?_)))
    obtain⟨ar,X,Y⟩:=ob Y
    exact Wp b O (fun _=>R.ix (α:=Str) H X O O O) (Wq b O (fun _ c=>R.ld O O (zaB (H.at_ X).1 O (H.at_ X).str c)) (Wp b O (fun _=>R.seq O O) (Mw.p O O (fun _=>R.pk b O (v:=vB (aq==ar)) O) (Hb O (Mw.nil ((ag) ⟨(aq==ar),ap,O,V,O,Y⟩))))))
   ·exact dps 9 b O (Mw.p O O (fun _=>R.pk b O (v:=vB false) O) (Hb O (Mw.nil ((ag) ⟨false,ap,O,V,O,Y⟩))))
 ·refine Cw.exit ?_
  rw[a1]at Y
  refine sr (mv f O (Nv f O ?_))
  cases Y
  exact Cw.ret (zkN O (Res.mk C ⟨f,O,K.s.sub O O⟩))
theorem p245 {x0 b x1 d k0 r}(f:Rd W K [b] x0)(h:Rd W K [d] x1)(Y:Vm.zdL x0 x1=some r):Q1 245 [b,d] W [] fun W' v=> ∃ a,v=a/\Ow W' k0 [] [a] r:=
 (c245 (f.view _) (h.view _) Y).ad (fk k0) fun _ _ ⟨a,e,i⟩=>⟨a,e,i.back (ziQ _)⟩
theorem c115 {x0 x1 x2 r}(Y:Vm.zeu x0 x1 x2=some r):Q0 115 [vI x0,vI x1,vI x2] W0 fun Wf v=>v=vB r:=by
 unfold Vm.zeu at Y
 refine zaz.of Tryz.func115 O O O O (sr (Nb O ?_))
 obtain⟨e,f,Y⟩:=zbM Y
 refine Cw.join 7 14 [6] (fun l w=> ∃ b d,CW.w d=w/\Le [] W0 d/\l=[vB b]/\e b=some r) ?_ ?_
 ·rintro _ _ σ ⟨b,d,rfl,h,rfl,Y⟩
  rw[f]at Y
  have i:=h.o
  exact .ret (rt Y i)
 ·refine rg (mi O (mi O (Lw.le O (mb O (bs Y (fun a Y=>?_) fun a Y=>?_)))))
  ·exact wak 3 a (mi O (mi O (Lw.le O (Pb a O (Nb O ((ag) ⟨decide (x0<=(x2:Int)),W0,O,Le.refl _ _,O,Y⟩))))))
  ·exact psk 3 a O (Pb a O (Nb O ((ag) ⟨false,W0,O,Le.refl _ _,O,Y⟩)))
theorem p115 {x0 x1 x2 r}(Y:Vm.zeu x0 x1 x2=some r):Q1 115 [vI x0,vI x1,vI x2] W [] fun W' v=>v=vB r:=
 (c115 (W0:=W.view [] []) Y).ad (fk 0) fun _ _ e=>e
theorem c173 {x0 r}(Y:Vm.zdN x0=some r):Q0 173 [.int .u8 (UInt8.toNat x0:Int)] W0 fun Wf v=>v=vB r:=by
 unfold Vm.zdN at Y
 refine zaz.of Tryz.func173 O O O O (sr (Nb O ?_))
 obtain⟨i,k,Y⟩:=zbM Y
 refine Cw.join 3 16 [2] (fun l w=> ∃ f h,CW.w h=w/\Le [] W0 h/\l=[vB f]/\i f=some r) ?_ ?_
 ·rintro _ _ σ ⟨f,h,rfl,x,rfl,Y⟩
  rw[k]at Y
  have y:=x.o
  exact .ret (rt Y y)
 ·refine rg (mv (.int .u8 (UInt8.toNat x0:Int)) O (Lw.ge O (mb O (bs Y (fun b Y=>?_) fun b Y=>?_))))
  ·refine wak 2 b (mv (.int .u8 (UInt8.toNat x0:Int)) O (Lw.le O (Pb b O (mb O (bs Y (fun a Y=>?_) fun a Y=>?_)))))
   ·exact psk 3 a O (puk 2 O (psk 1 a O (Pb a O (Nb O ((ag) ⟨true,W0,O,Le.refl _ _,O,Y⟩)))))
   ·refine wak 3 a (mv (.int .u8 (UInt8.toNat x0:Int)) O (Lw.ge O (mb O (bs Y (fun d Y=>?_) fun d Y=>?_))))
    ·exact wak 2 d (mv (.int .u8 (UInt8.toNat x0:Int)) O (Lw.le O (wak 1 a (Pb d O (Pb a O (Nb O ((ag) ⟨decide (((UInt8.toNat x0:Int):Int)<=(57:Int)),W0,O,Le.refl _ _,O,Y⟩)))))))
    ·exact psk 2 d O (wak 1 a (Pb d O (Pb a O (Nb O ((ag) ⟨false,W0,O,Le.refl _ _,O,Y⟩)))))
  ·refine psk 2 b O (Pb b O (mb O (wak 3 O (mv (.int .u8 (UInt8.toNat x0:Int)) O (Lw.ge O (mb O (bs Y (fun e Y=>?_) fun e Y=>?_)))))))
   ·exact wak 2 e (mv (.int .u8 (UInt8.toNat x0:Int)) O (Lw.le O (wak 1 O (Pb e O (Pb O O (Nb O ((ag) ⟨decide (((UInt8.toNat x0:Int):Int)<=(57:Int)),W0,O,Le.refl _ _,O,Y⟩)))))))
   ·exact psk 2 e O (wak 1 O (Pb e O (Pb O O (Nb O ((ag) ⟨false,W0,O,Le.refl _ _,O,Y⟩)))))
theorem p173 {x0 r}(Y:Vm.zdN x0=some r):Q1 173 [.int .u8 (UInt8.toNat x0:Int)] W [] fun W' v=>v=vB r:=
 (c173 (W0:=W.view [] []) Y).ad (fk 0) fun _ _ e=>e
theorem c113 {x0 r}(Y:Vm.zcL x0=some r):Q0 113 [vS x0] W0 fun Wf v=>v=vB r:=by
 unfold Vm.zcL at Y
 refine zaz.of Tryz.func113 O O O O (sr (Nb O (ssr (ms O (Lw.r O (R.lenS O) (ca Y (fun _=>p115) fun D e Y x=>?_))))))
 have f:=x.o
 refine Lw.r O (R.not O) (nl (cn Y (fun Y=>?_) fun Y=>?_))
 ·exact sr (Nb O (.ret (rt Y f)))
 ·refine sk (ssr (Ni O (Cw.block ?_)))
  obtain⟨y,z,Y⟩:=zbM Y
  refine Cw.loop 8 18 [2,3] (fun m l w=> ∃ a b d,CW.w d=w/\Le [] e d/\l=[vB a,vI b]/\Vm.zbY x0 y m a b=some r) _ ⟨false,0,e,O,Le.refl _ _,O,Y⟩ ?_
  rintro(_ |E) _ _ σ ⟨a,b,d,rfl,h,rfl,Y⟩
  ·cases Y
  unfold Vm.zbY at Y
  have i:=f.n h
  refine ssr (mi O (ms O (Lw.r O (R.lenS O) (Lw.lt O (nl (cn Y (fun Y=>?_) fun Y=>?_))))))
  ·refine sk (Cw.seq (Cw.block (sr (ms O (mi O ?_)))))
   obtain⟨F,A,Y⟩:=ob Y
   refine Lw.r O (R.chm A O O) (ca Y (fun _=>p173) fun G B Y k=>?_)
   have C:=i.n k
   refine Lw.r O (R.not O) (nl (cn Y (fun Y=>?_) fun Y=>?_))
   ·exact sr (Nb O (.ret (rt Y C)))
   ·exact sk (rg (mi O (Lw.add O (Ni O ((agm) ⟨a,w64 (b+1),B,O,(h.j k).w,O,Y⟩)))))
  ·refine Cw.exit ?_
   rw[z]at Y
   exact sr (Nb O (.ret (rt Y i)))
theorem p113 {x0 r}(Y:Vm.zcL x0=some r):Q1 113 [vS x0] W [] fun W' v=>v=vB r:=
 (c113 (W0:=W.view [] []) Y).ad (fk 0) fun _ _ e=>e
theorem c202 {x0 r}(Y:Vm.zfg x0=some r):Q0 202 [vS x0] W0 fun Wf v=>v=vB r:=by
 unfold Vm.zfg at Y
 refine zaz.of Tryz.func202 O O O O (sr (Nb O (ssr (ms O (Lw.r O (R.lenS O) (Lw.gt O (nl (cn Y (fun Y=>?_) fun Y=>?_))))))))
 ·exact sr (Nb O (.ret (rt Y (Le.refl _ _))))
 ·refine sk (ssr (Ni O (Cw.block ?_)))
  obtain⟨x,y,Y⟩:=zbM Y
  refine Cw.loop 7 22 [2,3] (fun m l w=> ∃ d e a,CW.w a=w/\Le [] W0 a/\l=[vB d,vI e]/\Vm.zbZ x0 x m d e=some r) _ ⟨false,0,W0,O,Le.refl _ _,O,Y⟩ ?_
  rintro(_ |F) _ _ σ ⟨d,e,a,rfl,i,rfl,Y⟩
  ·cases Y
  unfold Vm.zbZ at Y
  have k:=i.o
  refine ssr (mi O (ms O (Lw.r O (R.lenS O) (Lw.lt O (nl (cn Y (fun Y=>?_) fun Y=>?_))))))
  ·refine sk (Cw.seq (Cw.block ?_))
   obtain⟨z,A,Y⟩:=zbM Y
   refine Cw.join 13 22 [22] (fun l w=> ∃ h f,CW.w f=w/\Le [] a f/\l=[vB h]/\z h=some r) ?_ ?_
   ·rintro _ _ σ ⟨h,f,rfl,l10,rfl,Y⟩
    rw[A]at Y
    have B:=k.n l10
    refine cn Y (fun Y=>?_) fun Y=>?_
    ·exact sr (Nb O (.ret (rt Y B)))
    ·exact sk (rg (mi O (Lw.add O (Ni O ((agm) ⟨d,w64 (e+1),f,O,(i.j l10).w,O,Y⟩)))))
   ·refine rg (ms O (mi O ?_))
    obtain⟨G,C,Y⟩:=ob Y
    refine Lw.r O (R.chm C O O) (Lw.lt O (mb O (bs Y (fun b Y=>?_) fun b Y=>?_)))
    ·exact psk 4 b O (Pb b O (nl ((ag) ⟨true,a,O,Le.refl _ _,O,Y⟩)))
    ·refine wak 4 b (ms O (mi O ?_))
     obtain⟨D,E,Y⟩:=ob Y
     exact Lw.r O (R.chm E O O) (Lw.gt O (Pb b O (nl ((ag) ⟨decide ((126:Int)< ((UInt8.toNat D:Int):Int)),a,O,Le.refl _ _,O,Y⟩))))
  ·refine Cw.exit ?_
   rw[y]at Y
   exact sr (Nb O (.ret (rt Y k)))
theorem p202 {x0 r}(Y:Vm.zfg x0=some r):Q1 202 [vS x0] W [] fun W' v=>v=vB r:=
 (c202 (W0:=W.view [] []) Y).ad (fk 0) fun _ _ e=>e
theorem c174 {x0 a r}(b:Rd W0 [0] [a] x0)(Y:Vm.zbx x0=some r):Q0 174 [a] W0 fun Wf v=>v=vB r:=by
 unfold Vm.zbx at Y
 refine zaz.of Tryz.func174 O O O O (sr (Nb O (ssr (mv a O (Lw.ln x0 b O (Lw.gt O (nl (cn Y (fun Y=>?_) fun Y=>?_))))))))
 ·exact sr (Nb O (.ret (rt Y (Le.refl _ _))))
 ·refine sk (ssr (mv a O (Lw.ln x0 b O (mi O (nl (Cw.block ?_))))))
  obtain⟨z,A,Y⟩:=zbM Y
  refine Cw.loop 10 17 [2,4,10] (fun m l w=> ∃ d e i h,CW.w h=w/\Le [] W0 h/\l=[vB d,i,vI e]/\Vm.zb0 x0 z m d e=some r) _ ⟨false,0,undef,W0,O,Le.refl _ _,O,Y⟩ ?_
  rintro(_ |E) _ _ σ ⟨d,e,i,h,rfl,k,rfl,Y⟩
  ·cases Y
  unfold Vm.zb0 at Y
  have f:=k.o
  refine sr (Lw.lt O (nl (Cw.seq (cn Y (fun Y=>?_) fun Y=>?_))))
  ·refine sk (Cw.seq (Cw.block (sr ?_)))
   obtain⟨B,x,Y⟩:=ob Y
   refine Lw.r O (R.ix (α:=Str) (b.ul f) x O O O) (Lw.r O (R.ld O O ((b.ul f).at_ x).str) (Ns O (sr (ms O (ca Y (fun _=>p202) fun F C Y y=>?_)))))
   have D:=f.n y
   refine Lw.r O (R.not O) (nl (cn Y (fun Y=>?_) fun Y=>?_))
   ·exact sr (Nb O (.ret (rt Y D)))
   ·exact sk (rg (Lw.add O (mi O (nl ((agm) ⟨d,w64 (e+1),vS B,C,O,(k.j y).w,O,Y⟩)))))
  ·refine Cw.exit ?_
   rw[A]at Y
   exact sr (Nb O (.ret (rt Y f)))
theorem p174 {x0 a r}(b:Rd W K [a] x0)(Y:Vm.zbx x0=some r):Q1 174 [a] W [] fun W' v=>v=vB r:=
 (c174 (b.view _) Y).ad (fk 0) fun _ _ e=>e
theorem c162 {x0 r}(C:Gl 0 W0 [0])(Y:Vm.zdT x0=some r):Q0 162 [vS x0] W0 fun Wf v=>v=vB r:=by
 unfold Vm.zdT at Y
 refine zaz.of Tryz.func162 O O O O (sr (Nb O (sr (ms O (cr Y (fun _=>p196 (k0:=2) C) ?_)))))
 rintro f h k Y D ⟨_,rfl,a⟩
 have x:=D.o
 refine Nv h O (ssr (mv h O (Lw.ln f a.rd O (Lw.gt O (nl (cn Y (fun Y=>?_) fun Y=>?_))))))
 ·exact sr (Nb O (.ret (rt Y x)))
 ·refine sk (ssr (mv h O (Lw.ln f a.rd O (mi O (nl (Cw.block ?_))))))
  obtain⟨E,F,Y⟩:=zbM Y
  refine Cw.loop 13 20 [2,5,13] (fun m l w=> ∃ b d y i,CW.w i=w/\Le [] k i/\l=[vB b,y,vI d]/\Vm.zb1 f E m b d=some r) _ ⟨false,0,undef,k,O,Le.refl _ _,O,Y⟩ ?_
  rintro(_ |J) _ _ σ ⟨b,d,y,i,rfl,e,rfl,Y⟩
  ·cases Y
  unfold Vm.zb1 at Y
  have z:=x.n e
  refine sr (Lw.lt O (nl (Cw.seq (cn Y (fun Y=>?_) fun Y=>?_))))
  ·refine sk (Cw.seq (Cw.block (sr ?_)))
   obtain⟨G,A,Y⟩:=ob Y
   refine Lw.r O (R.ix (α:=Str) (a.up e).rd A O O O) (Lw.r O (R.ld O O ((a.up e).rd.at_ A).str) (Ns O (sr (ms O (ca Y (fun _=>p113) fun K H Y B=>?_)))))
   have I:=z.n B
   refine Lw.r O (R.not O) (nl (cn Y (fun Y=>?_) fun Y=>?_))
   ·exact sr (Nb O (.ret (rt Y I)))
   ·exact sk (rg (Lw.add O (mi O (nl ((agm) ⟨b,w64 (d+1),vS G,H,O,(e.j B).w,O,Y⟩)))))
  ·refine Cw.exit ?_
   rw[F]at Y
   exact sr (Nb O (.ret (rt Y z)))
theorem p162 {x0 r}(a:Gl 0 W K)(Y:Vm.zdT x0=some r):Q1 162 [vS x0] W [] fun W' v=>v=vB r:=
 (c162 (a.view _) Y).ad (fk 0) fun _ _ e=>e
theorem c170 {x0 x1 r}(h:Gl 0 W0 [0])(Y:Vm.zby x0 x1=some r):Q0 170 [vS x0,vS x1] W0 fun Wf v=>v=vB r:=by
 unfold Vm.zby at Y
 refine zaz.of Tryz.func170 O O O O (sr (Nb O ?_))
 obtain⟨k,x,Y⟩:=zbM Y
 refine Cw.join 5 16 [4] (fun l w=> ∃ e f,CW.w f=w/\Le [] W0 f/\l=[vB e]/\k e=some r) ?_ ?_
 ·rintro _ _ σ ⟨e,f,rfl,y,rfl,Y⟩
  rw[x]at Y
  have z:=y.o
  exact .ret (rt Y z)
 ·refine rg (ms O (ca Y (fun _=>p162 h) fun H A Y d=>?_))
  have B:=d.o
  refine mb O (bs Y (fun a Y=>?_) fun a Y=>?_)
  ·refine wak 2 a (ms O (ca Y (fun _=>p162 (h.ul B)) fun I C Y i=>Pb a O (mb O (bs Y (fun b Y=>?_) fun b Y=>?_))))
   ·refine wak 4 b (ms O (ms O ?_))
    obtain⟨J,D,Y⟩:=ob Y
    exact Lw.r O (R.sad D O O) (ca Y (fun _=>p201) fun E F Y G=>Pb b O (Nb O ((ag) ⟨E,F,O,((d.j i).j G).w,O,Y⟩)))
   ·exact psk 4 b O (Pb b O (Nb O ((ag) ⟨false,C,O,(d.j i).w,O,Y⟩)))
  ·exact psk 2 a O (Pb a O (mb O (psk 4 O O (Pb O O (Nb O ((ag) ⟨false,A,O,d,O,Y⟩))))))
theorem p170 {x0 x1 r}(a:Gl 0 W K)(Y:Vm.zby x0 x1=some r):Q1 170 [vS x0,vS x1] W [] fun W' v=>v=vB r:=
 (c170 (a.view _) Y).ad (fk 0) fun _ _ e=>e
end Go.Sx
