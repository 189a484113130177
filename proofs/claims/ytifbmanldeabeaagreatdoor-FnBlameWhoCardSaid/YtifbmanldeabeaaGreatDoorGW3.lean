/- Walks: each function answers as its model, printed by a program of ours. Conditions: the arguments read as they are given. -/
import Derived.Test.YtifbmanldeabeaaGreatDoorGTs
import Derived.Test.YtifbmanldeabeaaGreatDoorGM0
import Derived.Test.YtifbmanldeabeaaGreatDoorGW2
import Derived.Test.YtifbmanldeabeaaGreatDoorGE
namespace Go.Sx
open Go Go.Proofs Go.Vm Rp
set_option linter.unusedVariables false
set_option linter.unusedSimpArgs false
variable {W W0:CW}{K:List Nat}
theorem c172 {x0 r}(Y:Vm.zgP x0=some r):Q0 172 [vS x0] W0 fun Wf v=>v=vB r:=by
 unfold Vm.zgP at Y
 refine zao.of Tryz.func172 O O O O (sr (Nb O (ssr (ms O (Lw.r O (R.lenS O) (Lw.gt O (nl (cn Y (fun Y=>?_) fun Y=>?_))))))))
 ·exact sr (Nb O (.ret (rt Y (Le.refl _ _))))
 ·refine sk (ssr (Ni O (Cw.block ?_)))
  obtain⟨x,y,Y⟩:=zaY Y
  refine Cw.loop 7 22 [2,3] (fun m l w=> ∃ d e a,CW.w a=w/\Le [] W0 a/\l=[vB d,vI e]/\Vm.zcK x0 x m d e=some r) _ ⟨false,0,W0,O,Le.refl _ _,O,Y⟩ ?_
  rintro(_ |F) _ _ σ ⟨d,e,a,rfl,i,rfl,Y⟩
  ·cases Y
  unfold Vm.zcK at Y
  have k:=i.o
  refine ssr (mi O (ms O (Lw.r O (R.lenS O) (Lw.lt O (nl (cn Y (fun Y=>?_) fun Y=>?_))))))
  ·refine sk (Cw.seq (Cw.block ?_))
   obtain⟨z,A,Y⟩:=zaY Y
   refine Cw.join 13 22 [22] (fun l w=> ∃ h f,CW.w f=w/\Le [] a f/\l=[vB h]/\z h=some r) ?_ ?_
   ·rintro _ _ σ ⟨h,f,rfl,l10,rfl,Y⟩
    rw[A]at Y
    have B:=k.n l10
    refine cn Y (fun Y=>?_) fun Y=>?_
    ·exact sr (Nb O (.ret (rt Y B)))
    ·exact sk (rg (mi O (Lw.add O (Ni O ((agm) ⟨d,w64 (e+1),f,O,(i.j l10).w,O,Y⟩)))))
   ·refine rg (ms O (mi O ?_))
    obtain⟨G,C,Y⟩:=ob Y
    refine Lw.r O (R.chm C O O) (Lw.lt O (mb O (bs Y (fun b Y=>?_) fun b Y=>?_)))
    ·exact psk 4 b O (Pb b O (nl ((ag) ⟨true,a,O,Le.refl _ _,O,Y⟩)))
    ·refine wak 4 b (ms O (mi O ?_))
     obtain⟨D,E,Y⟩:=ob Y
     exact Lw.r O (R.chm E O O) (Lw.gt O (Pb b O (nl ((ag) ⟨decide ((126:Int)< ((UInt8.toNat D:Int):Int)),a,O,Le.refl _ _,O,Y⟩))))
  ·refine Cw.exit ?_
   rw[y]at Y
   exact sr (Nb O (.ret (rt Y k)))
theorem p172 {x0 r}(Y:Vm.zgP x0=some r):Q1 172 [vS x0] W [] fun W' v=>v=vB r:=
 (c172 (W0:=W.view [] []) Y).ad (fk 0) fun _ _ e=>e
theorem c144 {x0 a r}(b:Rd W0 [0] [a] x0)(Y:Vm.zcU x0=some r):Q0 144 [a] W0 fun Wf v=>v=vB r:=by
 unfold Vm.zcU at Y
 refine zao.of Tryz.func144 O O O O (sr (Nb O (ssr (mv a O (Lw.ln x0 b O (Lw.gt O (nl (cn Y (fun Y=>?_) fun Y=>?_))))))))
 ·exact sr (Nb O (.ret (rt Y (Le.refl _ _))))
 ·refine sk (ssr (mv a O (Lw.ln x0 b O (mi O (nl (Cw.block ?_))))))
  obtain⟨z,A,Y⟩:=zaY Y
  refine Cw.loop 10 17 [2,4,10] (fun m l w=> ∃ d e i h,CW.w h=w/\Le [] W0 h/\l=[vB d,i,vI e]/\Vm.zcL x0 z m d e=some r) _ ⟨false,0,undef,W0,O,Le.refl _ _,O,Y⟩ ?_
  rintro(_ |E) _ _ σ ⟨d,e,i,h,rfl,k,rfl,Y⟩
  ·cases Y
  unfold Vm.zcL at Y
  have f:=k.o
  refine sr (Lw.lt O (nl (Cw.seq (cn Y (fun Y=>?_) fun Y=>?_))))
  ·refine sk (Cw.seq (Cw.block (sr ?_)))
   obtain⟨B,x,Y⟩:=ob Y
   refine Lw.r O (R.ix (α:=Str) (b.ul f) x O O O) (Lw.r O (R.ld O O ((b.ul f).at_ x).str) (Ns O (sr (ms O (ca Y (fun _=>p172) fun F C Y y=>?_)))))
   have D:=f.n y
   refine Lw.r O (R.not O) (nl (cn Y (fun Y=>?_) fun Y=>?_))
   ·exact sr (Nb O (.ret (rt Y D)))
   ·exact sk (rg (Lw.add O (mi O (nl ((agm) ⟨d,w64 (e+1),vS B,C,O,(k.j y).w,O,Y⟩)))))
  ·refine Cw.exit ?_
   rw[A]at Y
   exact sr (Nb O (.ret (rt Y f)))
theorem p144 {x0 a r}(b:Rd W K [a] x0)(Y:Vm.zcU x0=some r):Q1 144 [a] W [] fun W' v=>v=vB r:=
 (c144 (b.view _) Y).ad (fk 0) fun _ _ e=>e
theorem c121 {x0 r}(C:Gl 0 W0 [0])(Y:Vm.zeM x0=some r):Q0 121 [vS x0] W0 fun Wf v=>v=vB r:=by
 unfold Vm.zeM at Y
 refine zao.of Tryz.func121 O O O O (sr (Nb O (sr (ms O (cr Y (fun _=>p160 (k0:=2) C) ?_)))))
 rintro f h k Y D ⟨_,rfl,a⟩
 have x:=D.o
 refine Nv h O (ssr (mv h O (Lw.ln f a.rd O (Lw.gt O (nl (cn Y (fun Y=>?_) fun Y=>?_))))))
 ·exact sr (Nb O (.ret (rt Y x)))
 ·refine sk (ssr (mv h O (Lw.ln f a.rd O (mi O (nl (Cw.block ?_))))))
  obtain⟨E,F,Y⟩:=zaY Y
  refine Cw.loop 13 20 [2,5,13] (fun m l w=> ∃ b d y i,CW.w i=w/\Le [] k i/\l=[vB b,y,vI d]/\Vm.zcM f E m b d=some r) _ ⟨false,0,undef,k,O,Le.refl _ _,O,Y⟩ ?_
  rintro(_ |J) _ _ σ ⟨b,d,y,i,rfl,e,rfl,Y⟩
  ·cases Y
  unfold Vm.zcM at Y
  have z:=x.n e
  refine sr (Lw.lt O (nl (Cw.seq (cn Y (fun Y=>?_) fun Y=>?_))))
  ·refine sk (Cw.seq (Cw.block (sr ?_)))
   obtain⟨G,A,Y⟩:=ob Y
   refine Lw.r O (R.ix (α:=Str) (a.up e).rd A O O O) (Lw.r O (R.ld O O ((a.up e).rd.at_ A).str) (Ns O (sr (ms O (ca Y (fun _=>p92) fun K H Y B=>?_)))))
   have I:=z.n B
   refine Lw.r O (R.not O) (nl (cn Y (fun Y=>?_) fun Y=>?_))
   ·exact sr (Nb O (.ret (rt Y I)))
   ·exact sk (rg (Lw.add O (mi O (nl ((agm) ⟨b,w64 (d+1),vS G,H,O,(e.j B).w,O,Y⟩)))))
  ·refine Cw.exit ?_
   rw[F]at Y
   exact sr (Nb O (.ret (rt Y z)))
theorem p121 {x0 r}(a:Gl 0 W K)(Y:Vm.zeM x0=some r):Q1 121 [vS x0] W [] fun W' v=>v=vB r:=
 (c121 (a.view _) Y).ad (fk 0) fun _ _ e=>e
theorem c127 {x0 x1 r}(h:Gl 0 W0 [0])(Y:Vm.zbX x0 x1=some r):Q0 127 [vS x0,vS x1] W0 fun Wf v=>v=vB r:=by
 unfold Vm.zbX at Y
 refine zao.of Tryz.func127 O O O O (sr (Nb O ?_))
 obtain⟨k,x,Y⟩:=zaY Y
 refine Cw.join 5 16 [4] (fun l w=> ∃ e f,CW.w f=w/\Le [] W0 f/\l=[vB e]/\k e=some r) ?_ ?_
 ·rintro _ _ σ ⟨e,f,rfl,y,rfl,Y⟩
  rw[x]at Y
  have z:=y.o
  exact .ret (rt Y z)
 ·refine rg (ms O (ca Y (fun _=>p121 h) fun H A Y d=>?_))
  have B:=d.o
  refine mb O (bs Y (fun a Y=>?_) fun a Y=>?_)
  ·refine wak 2 a (ms O (ca Y (fun _=>p121 (h.ul B)) fun I C Y i=>Pb a O (mb O (bs Y (fun b Y=>?_) fun b Y=>?_))))
   ·refine wak 4 b (ms O (ms O ?_))
    obtain⟨J,D,Y⟩:=ob Y
    exact Lw.r O (R.sad D O O) (ca Y (fun _=>p163) fun E F Y G=>Pb b O (Nb O ((ag) ⟨E,F,O,((d.j i).j G).w,O,Y⟩)))
   ·exact psk 4 b O (Pb b O (Nb O ((ag) ⟨false,C,O,(d.j i).w,O,Y⟩)))
  ·exact psk 2 a O (Pb a O (mb O (psk 4 O O (Pb O O (Nb O ((ag) ⟨false,A,O,d,O,Y⟩))))))
theorem p127 {x0 x1 r}(a:Gl 0 W K)(Y:Vm.zbX x0 x1=some r):Q1 127 [vS x0,vS x1] W [] fun W' v=>v=vB r:=
 (c127 (a.view _) Y).ad (fk 0) fun _ _ e=>e
theorem c93 {x0 h r}(f:Rd W0 [0] [h] x0)(ac:Gl 0 W0 [0])(Y:Vm.zda x0=some r):Q0 93 [h] W0 fun Wf v=>v=vB r:=by
 unfold Vm.zda at Y
 refine zao.of Tryz.func93 O O O O (sr (Nb O (ssr (mv h O (Lw.ln x0 f O (Lw.gt O (nl (cn Y (fun Y=>?_) fun Y=>?_))))))))
 ·exact sr (Nb O (.ret (rt Y (Le.refl _ _))))
 ·refine sk (ssr (mv h O (Lw.ln x0 f O (mi O (nl (Cw.block ?_))))))
  obtain⟨K8,av,Y⟩:=zaY Y
  refine Cw.loop 12 56 [2,3,4,6,12] (fun m l w=> ∃ B d j3 j4 J K,CW.w K=w/\Le [2,3] W0 K/\l=[vB B,j3,j4,J,vI d]/\Vm.zcN x0 K8 m B d=some r) _ ⟨false,0,undef,undef,undef,W0,O,Le.refl _ _,O,Y⟩ ?_
  rintro(_ |m9) _ _ σ ⟨B,d,j3,j4,J,K,rfl,l7,rfl,Y⟩
  ·cases Y
  unfold Vm.zcN at Y
  have i:=l7.s
  refine sr (Lw.lt O (nl (Cw.seq (cn Y (fun Y=>?_) fun Y=>?_))))
  ·refine sk (Cw.seq (Cw.block (sr (mi O ?_))))
   obtain⟨k,ai,Y⟩:=ob Y
   refine Lw.r O (R.ix (α:=File) (f.ul i) ai O O O) ?_
   obtain⟨x15,c16,_,r17⟩:=((f.ul i).at_ ai).cells
   obtain⟨bi,rfl,r19⟩:=File.split r17
   refine Lw.r O (R.lda c16 O O) (al 2 [vS ([]:Str), .slice none 0 0] fun aw bj aj ax=>?_)
   have C:=aj.o
   refine Gi O (sta ax (zaa O (zaa r19.oc zaG)) fun ay ak am=>?_)
   have D:=ak.s
   refine nl (Cw.seq ?_)
   obtain⟨az,a0,Y⟩:=zaY Y
   refine Cw.join 17 41 [41] (fun l w=> ∃ L z,CW.w z=w/\Le [] ay z/\l=[vB L]/\az L=some r) ?_ ?_
   ·rintro _ _ σ ⟨L,z,rfl,M,rfl,Y⟩
    rw[a0]at Y
    have E:=((i.trans C).trans D).n M
    refine cn Y (fun Y=>?_) fun Y=>?_
    ·exact sr (Nb O (.ret (rt Y E)))
    ·refine sk (sr (mv h O (mi O ?_)))
     obtain⟨an,ao,Y⟩:=ob Y
     have r34:=(f.ul E).cutV ao
     refine Lw.r O (R.sl (f.ul E) ao O (.inl ⟨O,O⟩) (.inr O)) (Lw.ln an r34 O (mi O (nl (Cw.block ?_))))
     obtain⟨a1,a2,Y⟩:=zaY Y
     refine Cw.loop 46 55 [2,6,46] (fun m l w=> ∃ A F N G,CW.w G=w/\Le [3] z G/\l=[vB A,N,vI F]/\Vm.zbx k an a1 m A F=some r) _ ⟨B,0,J,z,O,Le.refl _ _,O,Y⟩ ?_
     rintro(_ |bk) _ _ σ ⟨A,F,N,G,rfl,H,rfl,Y⟩
     ·cases Y
     unfold Vm.zbx at Y
     have P:=H.s
     refine sr (Lw.lt O (nl (Cw.seq (cn Y (fun Y=>?_) fun Y=>?_))))
     ·refine sk (Cw.seq (Cw.block (sr ?_)))
      obtain⟨bl,ap,Y⟩:=ob Y
      refine Lw.r O (R.ix (α:=File) (r34.ul P) ap O O O) ?_
      obtain⟨x47,c48,_,r49⟩:=((r34.ul P).at_ ap).cells
      obtain⟨bm,rfl,r51⟩:=File.split r49
      refine Lw.r O (R.lda c48 O O) (al 3 [vS ([]:Str), .slice none 0 0] fun a3 bn Q a4=>?_)
      have a5:=(E.trans P).n Q
      refine sta a4 (zaa O (zaa r51.oc zaG)) fun bp S a6=>?_
      have aq:=a5.t S
      refine nl (sr (fl a6 O (fl ((((am.up M).up H).up Q).up S) O (ca Y (fun _=>p127 (ac.ul aq)) fun bq a7 Y ar=>?_))))
      have a8:=aq.n ar
      refine nl (cn Y (fun Y=>?_) fun Y=>?_)
      ·exact sr (Nb O (.ret (rt Y a8)))
      ·exact sk (rg (Lw.add O (mi O (nl ((agm) ⟨A,w64 (F+1),ptr (bx a3),a7,O,(((H.j Q).j S).j ar).w,O,Y⟩)))))
     ·refine Cw.exit ?_
      rw[a2]at Y
      exact rg (Lw.add O (mi O (nl ((agm) ⟨A,w64 (d+1),vI d,ptr (bx aw),N,G,O,((((l7.j aj).j ak).j M).j H).w,O,Y⟩))))
   ·refine Cw.draw [] [(0,0),(1,1),(2,2),(3,0),(4,0),(5,0),(6,1),(7,2),(8,0),(9,0),(10,0),(11,0),(12,0),(13,0),(14,0),(15,0),(16,0),(17,0),(18,0),(19,1),(20,0),(21,1),(22,0),(23,0),(24,0)] mixed (by kernel_rfl) fun br x=>?_
    have U:=x.o
    have V:=am.up x
    refine Dfl V O O O ?_
    obtain⟨bu,a9,Y⟩:=ob Y
    refine Mw.t O O (T.call O (p144 (r19.ul ((C.trans D).trans U)) a9)) ?_
    rintro _ _ ⟨ba,rfl,y,rfl⟩
    have bb:=(((i.trans C).trans D).trans U).n y
    refine m0 y fun bc=>Mw.p O O (fun _=>R.not O) (Db O (bs Y (fun e Y=>?_) fun e Y=>?_))
    ·exact dps 4 e O (Mw.p O O (fun _=>R.pk e O (v:=vB true) O) (Db O (dps 3 O O (dpu 9 O (dps 1 O O (Mw.p O O (fun _=>R.pk O O (v:=vB true) O) (Mw.nil ((ag) ⟨true,ba,O,(x.j y).w,O,Y⟩))))))))
    ·refine Wp e O (fun _=>R.fa O) (Wq e O (fun _ c=>R.ld (v:=vS k.Path) O O (V.clc O O c)) ?_)
     obtain⟨be,bg,Y⟩:=ob Y
     refine Wt e O (T.call O (p121 (ac.ul bb) bg)) ?_
     rintro _ _ ⟨W,rfl,I,rfl⟩
     refine mc bc I fun bv=>Wp e O (fun _=>R.not O) (Mw.p O O (fun _=>R.pk e O (v:=vB (!be)) O) (Db O (bs Y (fun b Y=>?_) fun b Y=>?_)))
     ·exact dps 3 b O (dpu 9 O (dps 1 b O (Mw.p O O (fun _=>R.pk b O (v:=vB true) O) (Mw.nil ((ag) ⟨true,W,O,((x.j y).j I).w,O,Y⟩)))))
     ·refine Wp b O (fun _=>R.mv (v:=vI d) O) (Wp b O (fun _=>R.gt O O) (Wp b O (fun _=>R.mv (v:=vB (decide (0< (d:Int)))) O) (bs Y (fun a Y=>?_) fun a Y=>?_)))
      ·refine Wp a O (fun _=>R.mv (v:=h) O) (Wp a O (fun _=>R.mv (v:=vI d) O) (Wp a O (fun _=>R.sub O O) ?_))
       obtain⟨X,Z,Y⟩:=ob Y
       have aa:=f.ul (((i.trans C).trans D).trans U)
       exact Wp a O (fun _=>R.ix (α:=File) aa Z O O O) (Wp a O (fun _=>R.fa O) (Wq a O (fun _ c=>R.ld O O (zaq (File.at0 (aa.at_ Z)).1 O (File.at0 (aa.at_ Z)).str c)) (Wp a O (fun _=>R.fa O) (Wq a O (fun _ c=>R.ld (v:=vS k.Path) O O (V.clc O O c)) (Wp a O (fun _=>R.sge O O) (Wp b O (fun _=>R.pk a O (v:=vB (!Op.bytesLess X.Path k.Path)) O) (Mw.p O O (fun _=>R.pk b O (v:=vB (!Op.bytesLess X.Path k.Path)) O) (Mw.nil ((ag) ⟨(!Op.bytesLess X.Path k.Path),W,O,((x.j y).j I).w,O,Y⟩)))))))))
      ·exact dps 9 a O (Wp b O (fun _=>R.pk a O (v:=vB false) O) (Mw.p O O (fun _=>R.pk b O (v:=vB false) O) (Mw.nil ((ag) ⟨false,W,O,((x.j y).j I).w,O,Y⟩))))
  ·refine Cw.exit ?_
   rw[av]at Y
   exact sr (Nb O (.ret (rt Y i)))
theorem p93 {x0 a r}(b:Rd W K [a] x0)(d:Gl 0 W K)(Y:Vm.zda x0=some r):Q1 93 [a] W [] fun W' v=>v=vB r:=
 (c93 (b.view _) (d.view _) Y).ad (fk 0) fun _ _ e=>e
theorem c97 {x0 a b x1 r}(f:Rd W0 [0] [a,b] x0)(Y:Vm.zbI x0 x1=some r):Q0 97 [.agg [a,b].toArray,vI x1] W0 fun Wf v=>v=vB r:=by
 unfold Vm.zbI at Y
 obtain⟨z,A,d,h,B⟩:=Repo.split f
 simp only[List.cons.injEq,and_true,true_and]at d
 obtain⟨rfl,rfl⟩:=d
 refine zao.of Tryz.func97 O O O O (sr (bo 2 O fun C D i k=>?_))
 have e:=i.o
 refine Nb O (sr (mi O (fl k O (Lw.ln x0.Commits (h.ul e) O (Lw.sub O (ca Y (fun _=>p94) fun E F Y x=>?_))))))
 have y:=e.n x
 exact Nb O (.ret (rt Y y))
theorem p97 {x0 a b x1 r}(d:Rd W K [a,b] x0)(Y:Vm.zbI x0 x1=some r):Q1 97 [.agg [a,b].toArray,vI x1] W [] fun W' v=>v=vB r:=
 (c97 (d.view _) Y).ad (fk 0) fun _ _ e=>e
theorem c95 {x0 E F x1 k r}(h0:Rd W0 [0] [E,F] x0)(f:Rd W0 [0] [k] x1)(Y:Vm.zfO x0 x1=some r):Q0 95 [.agg [E,F].toArray,k] W0 fun Wf v=>v=vB r:=by
 unfold Vm.zfO at Y
 obtain⟨a3,a4,S,af,ah⟩:=Repo.split h0
 simp only[List.cons.injEq,and_true,true_and]at S
 obtain⟨rfl,rfl⟩:=S
 refine zao.of Tryz.func95 O O O O (sr (bo 2 O fun g1 U l1 b1=>?_))
 have y:=l1.o
 refine Nb O (ssr (mv k O (Lw.ln x1 (f.ul y) O (Lw.gt O (nl (cn Y (fun Y=>?_) fun Y=>?_))))))
 ·exact sr (Nb O (.ret (rt Y y)))
 ·refine sk (ssr (mv k O (Lw.ln x1 (f.ul y) O (mi O (nl (Cw.block ?_))))))
  obtain⟨ak,am,Y⟩:=zaY Y
  refine Cw.loop 12 43 [4,5,6,12] (fun m l w=> ∃ z e V W G,CW.w G=w/\Le [3] U G/\l=[vB z,V,W,vI e]/\Vm.zb6 x0 x1 ak m z e=some r) _ ⟨false,0,undef,undef,U,O,Le.refl _ _,O,Y⟩ ?_
  rintro(_ |a6) _ _ σ ⟨z,e,V,W,G,rfl,H,rfl,Y⟩
  ·cases Y
  unfold Vm.zb6 at Y
  have A:=y.t H
  refine sr (Lw.lt O (nl (Cw.seq (cn Y (fun Y=>?_) fun Y=>?_))))
  ·refine sk (Cw.seq (Cw.block (sr (mi O ?_))))
   obtain⟨x,X,Y⟩:=ob Y
   refine Lw.r O (R.ix (α:=Head) (f.ul A) X O O O) ?_
   obtain⟨x18,c19,_,r20⟩:=((f.ul A).at_ X).cells
   obtain rfl:=Head.split r20
   refine Lw.r O (R.lda c19 O O) (al 3 [vS ([]:Str),vI 0] fun an a7 I ao=>?_)
   have ap:=A.n I
   refine Gi O (sta ao (zaa O (zaa O zaG)) fun aq J ar=>?_)
   have Z:=ap.t J
   refine nl ?_
   obtain⟨au,av,Y⟩:=zaY Y
   refine Cw.join 17 42 [42] (fun l w=> ∃ L B,CW.w B=w/\Le [] aq B/\l=[vB L]/\au L=some r) ?_ ?_
   ·rintro _ _ σ ⟨L,B,rfl,aa,rfl,Y⟩
    rw[av]at Y
    have aw:=Z.n aa
    refine cn Y (fun Y=>?_) fun Y=>?_
    ·exact sr (Nb O (.ret (rt Y aw)))
    ·exact sk (rg (Lw.add O (mi O (nl ((agm) ⟨z,w64 (e+1),vI e,ptr (bx an),B,O,(((H.j I).j J).j aa).w,O,Y⟩)))))
   ·refine Cw.draw [] [(0,0),(1,1),(2,2),(3,0),(4,0),(5,1),(6,0),(7,1),(8,2),(9,0),(10,0),(11,0),(12,0),(13,0),(14,0),(15,0),(16,0),(17,0),(18,0),(19,0),(20,1),(21,0),(22,1),(23,0),(24,0),(25,0)] mixed (by kernel_rfl) fun a8 h=>?_
    have C:=Z.n h
    have M:=ar.up h
    refine Dfl M O O O ?_
    obtain⟨a9,ax,Y⟩:=ob Y
    refine Mw.t O O (T.call O (p92 ax)) ?_
    rintro _ _ ⟨ay,rfl,i,rfl⟩
    have ac:=C.n i
    refine m0 i fun az=>Mw.p O O (fun _=>R.not O) (Db O (bs Y (fun d Y=>?_) fun d Y=>?_))
    ·exact dps 5 d O (Mw.p O O (fun _=>R.pk d O (v:=vB true) O) (Db O (dps 3 O O (dpu 9 O (dps 1 O O (Mw.p O O (fun _=>R.pk O O (v:=vB true) O) (Mw.nil ((ag) ⟨true,ay,O,(h.j i).w,O,Y⟩))))))))
    ·refine Wq d O (fun _ c=>R.lda (cs:=[E,F]) (((((b1.up H).up I).up J).up h).clcs O c) O O) (Wp d O (fun _=>R.fa O) (Wq d O (fun _ c=>R.ld (v:=vI x.At) O O (M.clc O O c)) ?_))
     obtain⟨a0,a1,Y⟩:=ob Y
     refine Wt d O (T.call O (p97 (Repo.rd (K:=[0]) x0.Commits x0.Heads (af.ul ac) (ah.ul ac)) a1)) ?_
     rintro _ _ ⟨N,rfl,D,rfl⟩
     refine mc az D fun ba=>Wp d O (fun _=>R.not O) (Mw.p O O (fun _=>R.pk d O (v:=vB (!a0)) O) (Db O (bs Y (fun b Y=>?_) fun b Y=>?_)))
     ·exact dps 3 b O (dpu 9 O (dps 1 b O (Mw.p O O (fun _=>R.pk b O (v:=vB true) O) (Mw.nil ((ag) ⟨true,N,O,((h.j i).j D).w,O,Y⟩)))))
     ·refine Wp b O (fun _=>R.mv (v:=vI e) O) (Wp b O (fun _=>R.gt O O) (Wp b O (fun _=>R.mv (v:=vB (decide (0< (e:Int)))) O) (bs Y (fun a Y=>?_) fun a Y=>?_)))
      ·refine Wp a O (fun _=>R.mv (v:=k) O) (Wp a O (fun _=>R.mv (v:=vI e) O) (Wp a O (fun _=>R.sub O O) ?_))
       obtain⟨P,Q,Y⟩:=ob Y
       exact Wp a O (fun _=>R.ix (α:=Head) (f.ul C) Q O O O) (Wp a O (fun _=>R.fa O) (Wq a O (fun _ c=>R.ld O O (zaq (Head.at0 ((f.ul C).at_ Q)).1 O (Head.at0 ((f.ul C).at_ Q)).str c)) (Wp a O (fun _=>R.fa O) (Wq a O (fun _ c=>R.ld (v:=vS x.Name) O O (M.clc O O c)) (Wp a O (fun _=>R.sge O O) (Wp b O (fun _=>R.pk a O (v:=vB (!Op.bytesLess P.Name x.Name)) O) (Mw.p O O (fun _=>R.pk b O (v:=vB (!Op.bytesLess P.Name x.Name)) O) (Mw.nil ((ag) ⟨(!Op.bytesLess P.Name x.Name),N,O,((h.j i).j D).w,O,Y⟩)))))))))
      ·exact dps 9 a O (Wp b O (fun _=>R.pk a O (v:=vB false) O) (Mw.p O O (fun _=>R.pk b O (v:=vB false) O) (Mw.nil ((ag) ⟨false,N,O,((h.j i).j D).w,O,Y⟩))))
  ·refine Cw.exit ?_
   rw[am]at Y
   exact sr (Nb O (.ret (rt Y A)))
theorem p95 {x0 a b x1 d r}(f:Rd W K [a,b] x0)(h:Rd W K [d] x1)(Y:Vm.zfO x0 x1=some r):Q1 95 [.agg [a,b].toArray,d] W [] fun W' v=>v=vB r:=
 (c95 (f.view _) (h.view _) Y).ad (fk 0) fun _ _ e=>e
theorem c42 {x0 ae af r}(h0:Rd W0 [0] [ae,af] x0)(ah:Gl 0 W0 [0])(Y:Vm.zfa x0=some r):Q0 42 [.agg [ae,af].toArray] W0 fun Wf v=>v=vB r:=by
 unfold Vm.zfa at Y
 obtain⟨b9,cb,ai,C,aj⟩:=Repo.split h0
 simp only[List.cons.injEq,and_true,true_and]at ai
 obtain⟨rfl,rfl⟩:=ai
 refine zao.of Tryz.func42 O O O O (sr (bo 2 O fun g1 W1 l1 G=>?_))
 have H:=l1.o
 refine Nb O (ssr (fl G O (Lw.ln x0.Commits (C.ul H) O (Lw.gt O (nl (cn Y (fun Y=>?_) fun Y=>?_))))))
 ·exact sr (Nb O (.ret (rt Y H)))
 ·refine sk (ssr (fl G O (Lw.ln x0.Commits (C.ul H) O (mi O (nl (Cw.block ?_))))))
  obtain⟨bb,bc,Y⟩:=zaY Y
  refine Cw.loop 14 65 [2,3,4,6,14] (fun m l w=> ∃ I B j6 j7 Q S,CW.w S=w/\Le [3] W1 S/\l=[vB I,j6,j7,Q,vI B]/\Vm.zcO x0 bb m I B=some r) _ ⟨false,0,undef,undef,undef,W1,O,Le.refl _ _,O,Y⟩ ?_
  rintro(_ |cd) _ _ σ ⟨I,B,j6,j7,Q,S,rfl,l10,rfl,Y⟩
  ·cases Y
  unfold Vm.zcO at Y
  have d:=H.t l10
  refine sr (Lw.lt O (nl (Cw.seq (cn Y (fun Y=>?_) fun Y=>?_))))
  ·refine sk (Cw.seq (Cw.block (sr (mi O ?_))))
   obtain⟨A,ao,Y⟩:=ob Y
   refine Lw.r O (R.ix (α:=Commit) (C.ul d) ao O O O) ?_
   obtain⟨x19,c20,_,r21⟩:=((C.ul d).at_ ao).cells
   obtain⟨U,ap,rfl,r23,r25⟩:=Commit.split r21
   refine Lw.r O (R.lda c20 O O) (al 3 [.slice none 0 0,vS ([]:Str), .slice none 0 0] fun be ce aq bg=>?_)
   have e:=aq.o
   refine Gi O (sta bg (zaa r23.oc (zaa O (zaa r25.oc zaG))) fun bh ar au=>?_)
   have f:=ar.s
   refine nl (Cw.seq ?_)
   obtain⟨bi,bj,Y⟩:=zaY Y
   refine Cw.join 19 51 [51] (fun l w=> ∃ V D,CW.w D=w/\Le [] bh D/\l=[vB V]/\bi V=some r) ?_ ?_
   ·rintro _ _ σ ⟨V,D,rfl,W,rfl,Y⟩
    rw[bj]at Y
    have J:=W.o
    refine cn Y (fun Y=>?_) fun Y=>?_
    ·exact sr (Nb O (.ret (rt Y (((d.trans e).trans f).trans J))))
    ·refine sk (sr (fl (au.up W) O (Lw.ln A.Parents (r23.ul ((e.trans f).trans J)) O (mi O (nl (Cw.block ?_))))))
     obtain⟨bk,bl,Y⟩:=zaY Y
     refine Cw.loop 55 64 [2,6,55] (fun m l w=> ∃ E L X M,CW.w M=w/\Le [] D M/\l=[vB E,X,vI L]/\Vm.zby B A bk m E L=some r) _ ⟨I,0,Q,D,O,Le.refl _ _,O,Y⟩ ?_
     rintro(_ |cf) _ _ σ ⟨E,L,X,M,rfl,Z,rfl,Y⟩
     ·cases Y
     unfold Vm.zby at Y
     have av:=Z.o
     refine sr (Lw.lt O (nl (Cw.seq (cn Y (fun Y=>?_) fun Y=>?_))))
     ·refine sk (Cw.seq (Cw.block (sr ?_)))
      obtain⟨bm,aw,Y⟩:=ob Y
      have ax:=r23.ul (((e.trans f).trans J).trans av)
      refine Lw.r O (R.ix (α:=Int) ax aw O O O) (Lw.r O (R.ld O O (ax.at_ aw).int) (Ni O (sr (mi O (mi O (Lw.sub O (ca Y (fun _=>p94) fun cg bn Y ay=>?_)))))))
      have bp:=((((d.trans e).trans f).trans J).trans av).n ay
      refine Lw.r O (R.not O) (nl (cn Y (fun Y=>?_) fun Y=>?_))
      ·exact sr (Nb O (.ret (rt Y bp)))
      ·exact sk (rg (Lw.add O (mi O (nl ((agm) ⟨E,w64 (L+1),vI bm,bn,O,(Z.j ay).w,O,Y⟩)))))
     ·refine Cw.exit ?_
      rw[bl]at Y
      exact rg (Lw.add O (mi O (nl ((agm) ⟨E,w64 (B+1),vI B,ptr (bx be),X,M,O,((((l10.j aq).j ar).j W).j Z).w,O,Y⟩))))
   ·refine Cw.draw [] [(0,0),(1,1),(2,0),(3,0),(4,0),(5,0),(6,1),(7,0),(8,0),(9,0),(10,0),(11,1),(12,0),(13,1),(14,0),(15,1),(16,0),(17,1),(18,0),(19,0),(20,0),(21,0),(22,0),(23,1),(24,2),(25,0),(26,0),(27,0),(28,0),(29,1),(30,2),(31,0),(32,0)] mixed (by kernel_rfl) fun az h=>?_
    have F:=h.o
    have i:=au.up h
    have k:=r23.ul ((e.trans f).trans F)
    refine Dfl i O O O (Mw.p O O (fun _=>zuo (xs:=A.Parents) k O) (Mw.p O O (fun _=>R.gt O O) (Db O (bs Y (fun a Y=>?_) fun a Y=>?_))))
    ·exact dps 5 a O (dpu 9 O (dps 1 a O (Mw.p O O (fun _=>R.pk a O (v:=vB true) O) (Db O (dps 4 O O (Mw.p O O (fun _=>R.pk O O (v:=vB true) O) (Db O (dps 4 O O (Mw.p O O (fun _=>R.pk O O (v:=vB true) O) (Mw.nil ((ag) ⟨true,az,O,h,O,Y⟩)))))))))))
    ·refine Wp a O (fun _=>R.fa O) (Wq a O (fun _ c=>R.ld (v:=U) O O (i.clc O O c)) (Wp a O (fun _=>zuo (xs:=A.Parents) k O) (Wp a O (fun _=>R.eq O O) (Wp a O (fun _=>R.mv (v:=vB ((A.Parents.length:Int)==2)) O) (bs Y (fun b Y=>?_) fun b Y=>?_)))))
     ·refine Wp b O (fun _=>R.fa O) (Wq b O (fun _ c=>R.ld (v:=U) O O (i.clc O O c)) ?_)
      obtain⟨a0,aa,Y⟩:=ob Y
      refine Wp b O (fun _=>R.ix (α:=Int) k aa O O O) (Wq b O (fun _ c=>R.ld O O (zaq (k.at_ aa).1 O (k.at_ aa).int c)) (Wp b O (fun _=>R.fa O) (Wq b O (fun _ c=>R.ld (v:=U) O O (i.clc O O c)) ?_)))
      obtain⟨a1,ac,Y⟩:=ob Y
      refine Wp b O (fun _=>R.ix (α:=Int) k ac O O O) (Wq b O (fun _ c=>R.ld O O (zaq (k.at_ ac).1 O (k.at_ ac).int c)) (Wp b O (fun _=>R.eq O O) (Wp a O (fun _=>R.pk b O (v:=vB ((a0:Int)==(a1:Int))) O) (Mw.p O O (fun _=>R.pk a O (v:=vB ((a0:Int)==(a1:Int))) O) (Db O (bs Y (fun x Y=>?_) fun x Y=>?_))))))
      ·exact dps 4 x O (Mw.p O O (fun _=>R.pk x O (v:=vB true) O) (Db O (dps 4 O O (Mw.p O O (fun _=>R.pk O O (v:=vB true) O) (Mw.nil ((ag) ⟨true,az,O,h,O,Y⟩))))))
      ·refine Wp x O (fun _=>R.fa O) (Wq x O (fun _ c=>R.ld (v:=vS A.Who) O O (i.clc O O c)) ?_)
       obtain⟨bq,br,Y⟩:=ob Y
       refine Wt x O (T.call O (p92 br)) ?_
       rintro _ _ ⟨bu,rfl,N,rfl⟩
       have a3:=N.o
       refine m0 N fun bv=>Wp x O (fun _=>R.not O) (Mw.p O O (fun _=>R.pk x O (v:=vB (!bq)) O) (Db O (bs Y (fun y Y=>?_) fun y Y=>?_)))
       ·exact dps 4 y O (Mw.p O O (fun _=>R.pk y O (v:=vB true) O) (Mw.nil ((ag) ⟨true,bu,O,(h.j N).w,O,Y⟩)))
       ·refine Wp y O (fun _=>R.fa O) (Wq y O (fun _ c=>R.ld (v:=ap) O O (i.clc O O c)) ?_)
        obtain⟨a4,bw,Y⟩:=ob Y
        refine Wt y O (T.call O (p93 (r25.ul (((e.trans f).trans F).trans a3)) (ah.ul ((((d.trans e).trans f).trans F).trans a3)) bw)) ?_
        rintro _ _ ⟨bz,rfl,a5,rfl⟩
        exact mc bv a5 fun ch=>Wp y O (fun _=>R.not O) (Mw.p O O (fun _=>R.pk y O (v:=vB (!a4)) O) (Mw.nil ((ag) ⟨(!a4),bz,O,((h.j N).j a5).w,O,Y⟩)))
     ·refine dps 9 b O (Wp a O (fun _=>R.pk b O (v:=vB false) O) (Mw.p O O (fun _=>R.pk a O (v:=vB false) O) (Db O (Wp O O (fun _=>R.fa O) (Wq O O (fun _ c=>R.ld (v:=vS A.Who) O O (i.clc O O c)) ?_)))))
      obtain⟨b0,b2,Y⟩:=ob Y
      refine Wt O O (T.call O (p92 b2)) ?_
      rintro _ _ ⟨b3,rfl,P,rfl⟩
      have a6:=P.o
      refine m0 P fun b4=>Wp O O (fun _=>R.not O) (Mw.p O O (fun _=>R.pk O O (v:=vB (!b0)) O) (Db O (bs Y (fun z Y=>?_) fun z Y=>?_)))
      ·exact dps 4 z O (Mw.p O O (fun _=>R.pk z O (v:=vB true) O) (Mw.nil ((ag) ⟨true,b3,O,(h.j P).w,O,Y⟩)))
      ·refine Wp z O (fun _=>R.fa O) (Wq z O (fun _ c=>R.ld (v:=ap) O O (i.clc O O c)) ?_)
       obtain⟨a7,b5,Y⟩:=ob Y
       refine Wt z O (T.call O (p93 (r25.ul (((e.trans f).trans F).trans a6)) (ah.ul ((((d.trans e).trans f).trans F).trans a6)) b5)) ?_
       rintro _ _ ⟨b6,rfl,a8,rfl⟩
       exact mc b4 a8 fun ci=>Wp z O (fun _=>R.not O) (Mw.p O O (fun _=>R.pk z O (v:=vB (!a7)) O) (Mw.nil ((ag) ⟨(!a7),b6,O,((h.j P).j a8).w,O,Y⟩)))
  ·refine Cw.exit ?_
   rw[bc]at Y
   refine sr (la (G.up l10) (fl (G.up l10) O (ca Y (fun _=>p95 (Repo.rd (K:=[0]) x0.Commits x0.Heads (C.ul d) (aj.ul d)) (aj.ul d)) fun cj ck Y b7=>?_)))
   have b8:=d.n b7
   exact Nb O (.ret (rt Y b8))
theorem p42 {x0 a b r}(d:Rd W K [a,b] x0)(f:Gl 0 W K)(Y:Vm.zfa x0=some r):Q1 42 [.agg [a,b].toArray] W [] fun W' v=>v=vB r:=
 (c42 (d.view _) (f.view _) Y).ad (fk 0) fun _ _ e=>e
theorem c71 {x0 b d x1 r}(x:Rd W0 [0] [b,d] x0)(Y:Vm.zaX x0 x1=some r):Q0 71 [.agg [b,d].toArray,vI x1] W0 fun Wf v=> ∃ e,v=e/\Rd Wf [0] [e] r:=by
 unfold Vm.zaX at Y
 obtain⟨A,B,f,h,C⟩:=Repo.split x
 simp only[List.cons.injEq,and_true,true_and]at f
 obtain⟨rfl,rfl⟩:=f
 refine zao.of Tryz.func71 O O O O (sr (bo 2 O fun D E y z=>?_))
 have a:=y.o
 refine Nv (.slice none 0 0) O (ssr (mi O (Lw.lt O (nl (cn Y (fun Y=>?_) fun Y=>?_)))))
 ·refine sr (Nv (.slice none 0 0) O ?_)
  cases Y
  exact Cw.ret (zik O (Res.mk a ⟨.slice none 0 0,O,(rdN (K:=[0]))⟩))
 ·refine sk (sr (fl z O (mi O ?_)))
  obtain⟨F,i,Y⟩:=ob Y
  refine Lw.r O (R.ix (α:=Commit) (h.ul a) i O O O) (Lw.fa O ?_)
  obtain⟨k,c8,r9⟩:=(Commit.at2 ((h.ul a).at_ i)).cell O
  refine Lw.r O (R.ld O O c8) (Nv k O ?_)
  cases Y
  exact Cw.ret (zik O (Res.mk a ⟨k,O,r9⟩))
theorem p71 {x0 b d x1 r}(f:Rd W K [b,d] x0)(Y:Vm.zaX x0 x1=some r):Q1 71 [.agg [b,d].toArray,vI x1] W [] fun W' v=> ∃ a,v=a/\Rd W' (0::K) [a] r:=
 (c71 (f.view _) Y).ad (fk 0) fun _ _ ⟨a,e,h⟩=>⟨a,e,h.back O⟩
theorem c125 {x0 a r}(f:Rd W0 [0] [a] x0)(Y:Vm.zbS x0=some r):Q0 125 [a] W0 fun Wf v=> ∃ b,v=b/\OwS Wf LL [] [b] r:=by
 unfold Vm.zbS at Y
 refine zao.of Tryz.func125 O O O O (sr (Nv (.slice none 0 0) O (sr (Lw.t O (T.lit0 (α:=Str) 2 []) ?_))))
 rintro A _ ⟨B,rfl,h,i⟩
 have d:=h.o
 refine mv a O ?_
 obtain⟨C,k,Y⟩:=ob Y
 refine Lw.t O (T.appP (α:=Str) i (f.ul d) O O k) ?_
 rintro e _ ⟨D,rfl,x,y⟩
 have z:=d.t x
 refine Nv e O ?_
 cases Y
 exact Cw.ret (zik O (Res.mk z ⟨e,O,y.s.sub O O⟩))
theorem p125 {x0 b k0 r}(d:Rd W K [b] x0)(Y:Vm.zbS x0=some r):Q1 125 [b] W [] fun W' v=> ∃ a,v=a/\Ow W' k0 [] [a] r:=
 (c125 (d.view _) Y).ad (fk k0) fun _ _ ⟨a,e,f⟩=>⟨a,e,f.back (zgv _)⟩
theorem c116 {x0 i x1 r}(k:Rd W0 [0] [i] x0)(Y:Vm.zfE x0 x1=some r):Q0 116 [i,vS x1] W0 fun Wf v=> ∃ z,v = .tuple [z,vB r.2].toArray/\OwS Wf LL [] [z] r.1:=by
 unfold Vm.zfE at Y
 refine zao.of Tryz.func116 O O O O (sr (Gv (.slice none 0 0) O (Nb O (ssr (mv i O (Lw.ln x0 k O (mi O (nl (Cw.block ?_)))))))))
 obtain⟨H,I,Y⟩:=zaY Y
 refine Cw.loop 10 21 [4,5,7,10] (fun m l w=> ∃ a b d e A f,CW.w f=w/\Le [3] W0 f/\l=[e,vB b,A,vI d]/\Ow f 2 [] [e] a/\Vm.zcV x0 x1 H m a b d=some r) _ ⟨([]:List Str),false,0, .slice none 0 0,undef,W0,O,Le.refl _ _,O,owN 2 [],Y⟩ ?_
 rintro(_ |S) _ _ σ ⟨a,b,d,e,A,f,rfl,B,rfl,J,Y⟩
 ·cases Y
 unfold Vm.zcV at Y
 have h:=B.s
 refine sr (Lw.lt O (nl (Cw.seq (cn Y (fun Y=>?_) fun Y=>?_))))
 ·refine sk (Cw.seq (Cw.block (sr ?_)))
  obtain⟨T,C,Y⟩:=ob Y
  refine Lw.r O (R.ix (α:=File) (k.ul h) C O O O) ?_
  obtain⟨x15,c16,_,r17⟩:=((k.ul h).at_ C).cells
  obtain⟨U,rfl,r19⟩:=File.split r17
  refine Lw.r O (R.lda c16 O O) (al 3 [vS ([]:Str), .slice none 0 0] fun K V x L=>?_)
  have D:=x.o
  refine sta L (zaa O (zaa r19.oc zaG)) fun M y E=>?_
  have F:=y.s
  refine nl (sr (fl E O (ms O (Lw.seq O (nl (cn Y (fun Y=>?_) fun Y=>?_))))))
  ·refine sr (fl E O (cr Y (fun _=>p125 (k0:=4) (r19.ul (D.trans F))) ?_))
   rintro W G X Y N ⟨_,rfl,P⟩
   have Q:=((h.trans D).trans F).n N
   refine Gv G O (Nb O ?_)
   cases Y
   exact Cw.ret (zph O O (Res.mk Q ⟨G,O,P.s.sub O O⟩))
  ·exact sk (rg (Lw.add O (mi O (nl ((agm) ⟨a,b,w64 (d+1),e,ptr (bx K),M,O,((B.j x).j y).w,O,((J.up x).up y),Y⟩)))))
 ·refine Cw.exit ?_
  rw[I]at Y
  refine sr (Gv (.slice none 0 0) O (Nb O ?_))
  cases Y
  exact Cw.ret (zph O O (Res.mk h ⟨.slice none 0 0,O,(zp0 []).sub O O⟩))
theorem p116 {x0 b x1 k0 r}(d:Rd W K [b] x0)(Y:Vm.zfE x0 x1=some r):Q1 116 [b,vS x1] W [] fun W' v=> ∃ a,v = .tuple [a,vB r.2].toArray/\Ow W' k0 [] [a] r.1:=
 (c116 (d.view _) Y).ad (fk k0) fun _ _ ⟨a,e,f⟩=>⟨a,e,f.back (zgv _)⟩
theorem c157 {x0 k x1 x r}(y:Rd W0 [0] [k] x0)(z:Rd W0 [0] [x] x1)(Y:Vm.zk8 x0 x1=some r):Q0 157 [k,x] W0 fun Wf v=> ∃ u0,v=u0/\OwS Wf LL [] [u0] r:=by
 unfold Vm.zk8 at Y
 refine zao.of Tryz.func157 O O O O (sr (Nv (.slice none 0 0) O (sr (mv k O (Lw.ln x0 y O (Lw.add O ?_))))))
 obtain⟨M,e2,Y⟩:=ob Y
 refine Lw.t O (T.mk (α:=List Int) 2 [] (n:=w64 ((x0.length:Int)+1)) O O e2) ?_
 rintro a _ ⟨W3,rfl,l3,o3⟩
 have a4:=l3.o
 refine Nv a O (ssr (mv a O (Lw.ln M o3.rd O (mi O (nl (Cw.block ?_))))))
 obtain⟨a3,a5,Y⟩:=zaY Y
 refine Cw.loop 15 25 [6,15] (fun m l w=> ∃ A F j5 e,CW.w e=w/\Le [2,3] W3 e/\l=[j5,vI A]/\Ow e 2 [] [a] F/\Vm.zeO x1 M a3 m A F=some r) _ ⟨0,M,undef,W3,O,Le.refl _ _,O,o3,Y⟩ ?_
 rintro(_ |cg) _ _ σ ⟨A,F,j5,e,rfl,l9,rfl,N,Y⟩
 ·cases Y
 unfold Vm.zeO at Y
 have P:=a4.t l9
 refine sr (Lw.lt O (nl (Cw.seq (cn Y (fun Y=>?_) fun Y=>?_))))
 ·refine sk (Cw.seq (Cw.block (sr (mi O (Ni O (rg (mv a O (mi O (mv x O (Lw.ln x1 (z.ul P) O (Lw.add O ?_)))))))))))
  obtain⟨ch,a6,Y⟩:=ob Y
  refine Lw.t O (T.mk (α:=Int) 3 [] (n:=w64 ((x1.length:Int)+1)) O O a6) ?_
  rintro ci _ ⟨cj,rfl,Q,ao⟩
  obtain⟨ck,a7,Y⟩:=ob Y
  refine Lw.r O (R.ix (α:=List Int) (N.up Q).rd a7 O O O) ?_
  obtain⟨a8,a9,Y⟩:=ob Y
  refine Lw.u (T.stO (J:=[3]) (N.up Q) ao.s a9 O O (ztr ao.oc)) ?_
  rintro _ _ ⟨ba,rfl,bb,bc⟩
  exact nl (rg (Lw.add O (mi O (nl ((agm) ⟨w64 (A+1),a8,vI A,ba,O,((l9.j Q).j bb).w,O,bc,Y⟩)))))
 ·refine Cw.exit ?_
  rw[a5]at Y
  refine ssr (mv k O (Lw.ln x0 (y.ul P) O (Lw.sub O (Ni O (Cw.block ?_)))))
  obtain⟨be,bg,Y⟩:=zaY Y
  refine Cw.loop 29 87 [7,8] (fun m l w=> ∃ B G ap f,CW.w f=w/\Le [2,4,5] e f/\l=[vI B,ap]/\Ow f 2 [] [a] G/\Vm.zdq x0 x1 be m B G=some r) _ ⟨w64 ((x0.length:Int)-1),F,undef,e,O,Le.refl _ _,O,N,Y⟩ ?_
  rintro(_ |cl) _ _ σ ⟨B,G,ap,f,rfl,aq,rfl,ar,Y⟩
  ·cases Y
  unfold Vm.zdq at Y
  have S:=P.t aq
  refine ssr (mi O (Lw.ge O (nl (cn Y (fun Y=>?_) fun Y=>?_))))
  ·refine sk (Cw.seq (Cw.block (sr (mv x O (Lw.ln x1 (z.ul S) O (Lw.sub O (Ni O (Cw.block ?_))))))))
   obtain⟨bh,bi,Y⟩:=zaY Y
   refine Cw.loop 36 87 [8] (fun m l w=> ∃ C H h,CW.w h=w/\Le [2,4,5] f h/\l=[vI C]/\Ow h 2 [] [a] H/\Vm.zeN x0 x1 B bh m C H=some r) _ ⟨w64 ((x1.length:Int)-1),G,f,O,Le.refl _ _,O,ar,Y⟩ ?_
   rintro(_ |cm) _ _ σ ⟨C,H,h,rfl,U,rfl,V,Y⟩
   ·cases Y
   unfold Vm.zeN at Y
   have bj:=S.t U
   refine ssr (mi O (Lw.ge O (nl (cn Y (fun Y=>?_) fun Y=>?_))))
   ·refine sk ?_
    obtain⟨bk,bl,Y⟩:=zaY Y
    refine Cw.join 40 87 [] (fun l w=> ∃ I D,CW.w D=w/\Le [2,4,5] h D/\l=[]/\Ow D 2 [] [a] I/\bk I=some r) ?_ ?_
    ·rintro _ _ σ ⟨I,D,rfl,bm,rfl,bn,Y⟩
     rw[bl]at Y
     exact rg (mi O (Lw.sub O (Ni O ((agm) ⟨w64 (C-1),I,D,O,(U.j bm).w,O,bn,Y⟩))))
    ·refine Cw.block (Cw.seq (Cw.draw [] [(0,0),(1,0),(2,0),(3,1),(4,0),(5,0),(6,0),(7,1),(8,0)] mixed (by kernel_rfl) fun co E=>?_))
     have i:=bj.n E
     refine Dv k O (Di O ?_)
     obtain⟨cp,W,Y⟩:=ob Y
     refine Mw.p O O (fun _=>R.ix (α:=Str) (y.ul i) W O O O) (Mw.q O O (fun _ c=>R.ld O O (zaq ((y.ul i).at_ W).1 O ((y.ul i).at_ W).str c)) (Dv x O (Di O ?_)))
     obtain⟨cq,X,Y⟩:=ob Y
     refine Mw.p O O (fun _=>R.ix (α:=Str) (z.ul i) X O O O) (Mw.q O O (fun _ c=>R.ld O O (zaq ((z.ul i).at_ X).1 O ((z.ul i).at_ X).str c)) (Mw.p O O (fun _=>R.seq O O) (Mw.nil (cn Y (fun Y=>?_) fun Y=>?_))))
     ·refine Cw.draw [] [(0,0),(1,0),(2,0),(3,1),(4,0),(5,0),(6,0),(7,0),(8,0),(9,1),(10,0),(11,0),(12,0),(13,1),(14,0),(15,0),(16,3)] mixed (by kernel_rfl) fun cs au=>?_
      have d:=(V.up E).up au
      refine Dv a O (Di O ?_)
      obtain⟨ct,K,Y⟩:=ob Y
      refine Mw.p O O (fun _=>R.ix (α:=List Int) d.rd K O O O) ?_
      obtain⟨cu,c66,r67⟩:=(d.rd.at_ K).cell O
      refine Mw.q O O (fun _ c=>R.ld O O (zaq (d.rd.at_ K).1 O c66 c)) (Di O (Dv a O (Di O (Mw.p O O (fun _=>R.add O O) ?_))))
      obtain⟨cv,Z,Y⟩:=ob Y
      refine Mw.p O O (fun _=>R.ix (α:=List Int) d.rd Z O O O) ?_
      obtain⟨cw,c71,r72⟩:=(d.rd.at_ Z).cell O
      refine Mw.q O O (fun _ c=>R.ld O O (zaq (d.rd.at_ Z).1 O c71 c)) (Di O (Mw.p O O (fun _=>R.add O O) ?_))
      obtain⟨cx,aa,Y⟩:=ob Y
      refine Mw.p O O (fun _=>R.ix (α:=Int) r72 aa O O O) (Mw.q O O (fun _ c=>R.ld O O (zaq (r72.at_ aa).1 O (r72.at_ aa).int c)) (Mw.p O O (fun _=>R.add O O) ?_))
      obtain⟨cy,bp,Y⟩:=ob Y
      refine Mw.p O O (fun _=>R.ix (α:=Int) r67 bp O O O) ?_
      obtain⟨cz,bq,br,bu,gb77⟩:=Ow.lend (α:=List Int) (β:=List Int) (j:=4) (jf:=0) d K (by rw[zlt];exact c66) O
      rw[<- bq]
      obtain⟨c0,bv,Y⟩:=ob Y
      refine Mw.lu O (T.stS (K':=[]) bu (rdI _) bv O O O) ?_
      rintro _ _ ⟨c1,rfl,av,bw⟩
      obtain⟨bz,b0,b1,b2,eq84,b3⟩:=gb77 _ _ av bw
      obtain⟨aw,eqm84,Y⟩:=ob Y
      obtain rfl:aw=b2:=Option.some.inj (eqm84.symm.trans eq84)
      rw[<- b0]
      exact Mw.nil ((ag) ⟨aw,bz,O,((((E.j au).j br).j av).j b1).w,O,b3,Y⟩)
     ·refine Cw.draw [] [(0,0),(1,0),(2,0),(3,1),(4,0),(5,0),(6,0),(7,0),(8,0),(9,1),(10,0),(11,0),(12,1),(13,0),(14,0),(15,0),(16,1),(17,0),(18,0),(19,0),(20,1),(21,0),(22,0),(23,3)] mixed (by kernel_rfl) fun c2 ax=>?_
      have b:=(V.up E).up ax
      refine Dv a O (Di O ?_)
      obtain⟨c3,L,Y⟩:=ob Y
      refine Mw.p O O (fun _=>R.ix (α:=List Int) b.rd L O O O) ?_
      obtain⟨c4,c92,r93⟩:=(b.rd.at_ L).cell O
      refine Mw.q O O (fun _ c=>R.ld O O (zaq (b.rd.at_ L).1 O c92 c)) (Di O (Dv a O (Di O (Mw.p O O (fun _=>R.add O O) ?_))))
      obtain⟨c5,ac,Y⟩:=ob Y
      refine Mw.p O O (fun _=>R.ix (α:=List Int) b.rd ac O O O) ?_
      obtain⟨c6,c97,r98⟩:=(b.rd.at_ ac).cell O
      refine Mw.q O O (fun _ c=>R.ld O O (zaq (b.rd.at_ ac).1 O c97 c)) (Di O ?_)
      obtain⟨c7,ae,Y⟩:=ob Y
      refine Mw.p O O (fun _=>R.ix (α:=Int) r98 ae O O O) (Mw.q O O (fun _ c=>R.ld O O (zaq (r98.at_ ae).1 O (r98.at_ ae).int c)) (Dv a O (Di O ?_)))
      obtain⟨c8,af,Y⟩:=ob Y
      refine Mw.p O O (fun _=>R.ix (α:=List Int) b.rd af O O O) ?_
      obtain⟨c9,c104,r105⟩:=(b.rd.at_ af).cell O
      refine Mw.q O O (fun _ c=>R.ld O O (zaq (b.rd.at_ af).1 O c104 c)) (Di O (Mw.p O O (fun _=>R.add O O) ?_))
      obtain⟨da,ah,Y⟩:=ob Y
      refine Mw.p O O (fun _=>R.ix (α:=Int) r105 ah O O O) (Mw.q O O (fun _ c=>R.ld O O (zaq (r105.at_ ah).1 O (r105.at_ ah).int c)) (Mw.p O O (fun _=>R.max O O) ?_))
      obtain⟨db,b4,Y⟩:=ob Y
      refine Mw.p O O (fun _=>R.ix (α:=Int) r93 b4 O O O) ?_
      obtain⟨dc,b5,b6,b7,gb110⟩:=Ow.lend (α:=List Int) (β:=List Int) (j:=5) (jf:=0) b L (by rw[zlt];exact c92) O
      rw[<- b5]
      obtain⟨dd,b8,Y⟩:=ob Y
      refine Mw.lu O (T.stS (K':=[]) b7 (rdI _) b8 O O O) ?_
      rintro _ _ ⟨de,rfl,ay,b9⟩
      obtain⟨cb,cc,cd,ce,eq117,cf⟩:=gb110 _ _ ay b9
      obtain⟨az,eqm117,Y⟩:=ob Y
      obtain rfl:az=ce:=Option.some.inj (eqm117.symm.trans eq117)
      rw[<- cc]
      exact Mw.nil ((ag) ⟨az,cb,O,((((E.j ax).j b6).j ay).j cd).w,O,cf,Y⟩)
   ·refine Cw.exit ?_
    rw[bi]at Y
    exact rg (mi O (Lw.sub O (Ni O ((agm) ⟨w64 (B-1),H,vI C,h,O,(aq.j U).w,O,V,Y⟩))))
  ·refine Cw.exit ?_
   rw[bg]at Y
   refine sr (mv a O (Nv a O ?_))
   cases Y
   exact Cw.ret (zik O (Res.mk S ⟨a,O,ar.s.sub O O⟩))
theorem p157 {x0 b x1 d k0 r}(f:Rd W K [b] x0)(h:Rd W K [d] x1)(Y:Vm.zk8 x0 x1=some r):Q1 157 [b,d] W [] fun W' v=> ∃ a,v=a/\Ow W' k0 [] [a] r:=
 (c157 (f.view _) (h.view _) Y).ad (fk k0) fun _ _ ⟨a,e,i⟩=>⟨a,e,i.back (zgv _)⟩
theorem c118 {x0 x x1 i r}(y:Rd W0 [0] [x] x0)(H:Rd W0 [0] [i] x1)(Y:Vm.zeG x0 x1=some r):Q0 118 [x,i] W0 fun Wf v=> ∃ X,v=X/\OwS Wf LL [] [X] r:=by
 unfold Vm.zeG at Y
 refine zao.of Tryz.func118 O O O O (sr (Nv (.slice none 0 0) O (sr (mv x O (mv i O (cr Y (fun _=>p157 (k0:=2) y H) ?_))))))
 rintro z1 I Z Y l3 ⟨_,rfl,ar⟩
 have a4:=l3.o
 refine Nv I O (sr (Nv (.slice none 0 0) O (ssr (Gi O (Ni O (Cw.block ?_))))))
 obtain⟨av,aw,Y⟩:=zaY Y
 refine Cw.loop 12 70 [6,7,8] (fun m l w=> ∃ A e d f z,CW.w z=w/\Le [3] Z z/\l=[f,vI e,vI d]/\Ow z 3 [] [f] A/\Vm.zed x0 x1 z1 av m A e d=some r) _ ⟨([]:List Int),0,0, .slice none 0 0,Z,O,Le.refl _ _,O,owN 3 [],Y⟩ ?_
 rintro(_ |bi) _ _ σ ⟨A,e,d,f,z,rfl,l10,rfl,J,Y⟩
 ·cases Y
 unfold Vm.zed at Y
 have B:=a4.t l10
 refine ssr (mi O (mv x O (Lw.ln x0 (y.ul B) O (Lw.lt O (nl (cn Y (fun Y=>?_) fun Y=>?_))))))
 ·refine sk (Cw.block (Cw.block ?_))
  obtain⟨ax,ay,Y⟩:=zaY Y
  refine Cw.join 18 33 [18] (fun l w=> ∃ K C,CW.w C=w/\Le [] z C/\l=[vB K]/\ax K=some r) ?_ ?_
  ·rintro _ _ σ ⟨K,C,rfl,h,rfl,Y⟩
   rw[ay]at Y
   have az:=B.n h
   refine cn Y (fun Y=>?_) fun Y=>?_
   ·refine sr (mv f O (mi O (Lw.t O (T.bs 4 [vI d] (cs:=[vI d]) O O (bsv O)) ?_)))
    rintro _ _ ⟨bj,bk,rfl,rfl,aa,a0⟩
    obtain⟨a1,a2,Y⟩:=ob Y
    refine Lw.t O (T.app1S (α:=Int) (K':=[]) ((J.up h).up aa) a0 (rdI _) O O a2) ?_
    rintro ac _ ⟨a3,rfl,a5,a6⟩
    exact Nv ac O (sr (mi O (Lw.add O (Ni O (rg (mi O (Lw.add O (Ni O ((agm) ⟨a1,w64 (e+1),w64 (d+1),ac,a3,O,(((l10.j h).j aa).j a5).w,O,a6,Y⟩)))))))))
   ·obtain⟨a7,a8,Y⟩:=zaY Y
    refine Cw.join 42 65 [42] (fun l w=> ∃ L D,CW.w D=w/\Le [] C D/\l=[vB L]/\a7 L=some r) ?_ ?_
    ·rintro _ _ σ ⟨L,D,rfl,M,rfl,Y⟩
     rw[a8]at Y
     have ae:=(J.up h).up M
     refine cn Y (fun Y=>?_) fun Y=>?_
     ·refine sr (mv f O (Lw.t O (T.bs 5 [vI (-1)] (cs:=[vI (-1)]) O O (bsv O)) ?_))
      rintro _ _ ⟨bl,bm,rfl,rfl,af,a9⟩
      obtain⟨ba,bb,Y⟩:=ob Y
      refine Lw.t O (T.app1S (α:=Int) (K':=[]) (ae.up af) a9 (rdI _) O O bb) ?_
      rintro ah _ ⟨bc,rfl,be,bg⟩
      exact Nv ah O (rg (mi O (Lw.add O (Ni O ((agm) ⟨ba,w64 (e+1),d,ah,bc,O,((((l10.j h).j M).j af).j be).w,O,bg,Y⟩)))))
     ·exact rg (mi O (Lw.add O (Ni O ((agm) ⟨A,e,w64 (d+1),f,D,O,((l10.j h).j M).w,O,ae,Y⟩))))
    ·refine Cw.draw [] [(0,0),(1,0),(2,0),(3,0),(4,0),(5,0),(6,0),(7,0),(8,0),(9,1),(10,0),(11,0),(12,1),(13,0),(14,0),(15,0),(16,1),(17,0),(18,0),(19,0),(20,1),(21,0),(22,0),(23,0)] mixed (by kernel_rfl) fun ai E=>?_
     have bh:=az.n E
     have k:=((ar.up l10).up h).up E
     refine Di O (Dv i O (Mw.p O O (fun _=>zuo (xs:=x1) (H.ul bh) O) (Mw.p O O (fun _=>R.eq O O) (Db O (bs Y (fun a Y=>?_) fun a Y=>?_)))))
     ·exact dps 17 a O (Mw.p O O (fun _=>R.pk a O (v:=vB true) O) (Hb O (Mw.nil ((ag) ⟨true,ai,O,E,O,Y⟩))))
     ·refine Wp a O (fun _=>R.mv (v:=I) O) (Wp a O (fun _=>R.mv (v:=vI e) O) (Wp a O (fun _=>R.add O O) ?_))
      obtain⟨bn,N,Y⟩:=ob Y
      refine Wp a O (fun _=>R.ix (α:=List Int) k.rd N O O O) ?_
      obtain⟨bp,c60,r61⟩:=(k.rd.at_ N).cell O
      refine Wq a O (fun _ c=>R.ld O O (zaq (k.rd.at_ N).1 O c60 c)) (Wp a O (fun _=>R.mv (v:=vI d) O) ?_)
      obtain⟨aj,P,Y⟩:=ob Y
      refine Wp a O (fun _=>R.ix (α:=Int) r61 P O O O) (Wq a O (fun _ c=>R.ld O O (zaq (r61.at_ P).1 O (r61.at_ P).int c)) (Wp a O (fun _=>R.mv (v:=I) O) (Wp a O (fun _=>R.mv (v:=vI e) O) ?_)))
      obtain⟨u64,Q,Y⟩:=ob Y
      refine Wp a O (fun _=>R.ix (α:=List Int) k.rd Q O O O) ?_
      obtain⟨bq,c67,r68⟩:=(k.rd.at_ Q).cell O
      refine Wq a O (fun _ c=>R.ld O O (zaq (k.rd.at_ Q).1 O c67 c)) (Wp a O (fun _=>R.mv (v:=vI d) O) (Wp a O (fun _=>R.add O O) ?_))
      obtain⟨ak,S,Y⟩:=ob Y
      exact Wp a O (fun _=>R.ix (α:=Int) r68 S O O O) (Wq a O (fun _ c=>R.ld O O (zaq (r68.at_ S).1 O (r68.at_ S).int c)) (Wp a O (fun _=>R.ge O O) (Mw.p O O (fun _=>R.pk a O (v:=vB (decide (ak<=(aj:Int)))) O) (Hb O (Mw.nil ((ag) ⟨decide (ak<=(aj:Int)),ai,O,E,O,Y⟩))))))
  ·refine Cw.draw [] [(0,0),(1,0),(2,0),(3,0),(4,0),(5,0),(6,0),(7,0),(8,1),(9,0),(10,0),(11,0),(12,1),(13,0),(14,0),(15,0)] mixed (by kernel_rfl) fun am U=>?_
   have F:=B.n U
   have G:=H.ul F
   refine Di O (Dv i O (Mw.p O O (fun _=>zuo (xs:=x1) G O) (Mw.p O O (fun _=>R.lt O O) (Db O (bs Y (fun b Y=>?_) fun b Y=>?_)))))
   ·refine Wp b O (fun _=>R.mv (v:=x) O) (Wp b O (fun _=>R.mv (v:=vI e) O) ?_)
    obtain⟨an,V,Y⟩:=ob Y
    refine Wp b O (fun _=>R.ix (α:=Str) (y.ul F) V O O O) (Wq b O (fun _ c=>R.ld O O (zaq ((y.ul F).at_ V).1 O ((y.ul F).at_ V).str c)) (Wp b O (fun _=>R.mv (v:=i) O) (Wp b O (fun _=>R.mv (v:=vI d) O) ?_)))
    obtain⟨ao,W,Y⟩:=ob Y
    exact Wp b O (fun _=>R.ix (α:=Str) G W O O O) (Wq b O (fun _ c=>R.ld O O (zaq (G.at_ W).1 O (G.at_ W).str c)) (Wp b O (fun _=>R.seq O O) (Mw.p O O (fun _=>R.pk b O (v:=vB (an==ao)) O) (Hb O (Mw.nil ((ag) ⟨(an==ao),am,O,U,O,Y⟩))))))
   ·exact dps 9 b O (Mw.p O O (fun _=>R.pk b O (v:=vB false) O) (Hb O (Mw.nil ((ag) ⟨false,am,O,U,O,Y⟩))))
 ·refine Cw.exit ?_
  rw[aw]at Y
  refine sr (mv f O (Nv f O ?_))
  cases Y
  exact Cw.ret (zik O (Res.mk B ⟨f,O,J.s.sub O O⟩))
theorem p118 {x0 b x1 d k0 r}(f:Rd W K [b] x0)(h:Rd W K [d] x1)(Y:Vm.zeG x0 x1=some r):Q1 118 [b,d] W [] fun W' v=> ∃ a,v=a/\Ow W' k0 [] [a] r:=
 (c118 (f.view _) (h.view _) Y).ad (fk k0) fun _ _ ⟨a,e,i⟩=>⟨a,e,i.back (zgv _)⟩
end Go.Sx
