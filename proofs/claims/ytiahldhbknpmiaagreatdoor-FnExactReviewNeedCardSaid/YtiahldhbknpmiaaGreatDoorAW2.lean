/- Walks: each function answers as its model, printed by a program of ours. Conditions: the arguments read as they are given. -/
import Derived.Test.YtiahldhbknpmiaaGreatDoorATs
import Derived.Test.YtiahldhbknpmiaaGreatDoorAM0
import Derived.Test.YtiahldhbknpmiaaGreatDoorAW1
namespace Go.Sx
open Go Go.Proofs Go.Vm Rp
set_option linter.unusedVariables false
set_option linter.unusedSimpArgs false
variable {W W0:CW}{K:List Nat}
theorem c114 {x0 h r}(f:Rd W0 [0] [h] x0)(ac:Gl 0 W0 [0])(Y:Vm.zcl x0=some r):Q0 114 [h] W0 fun Wf v=>v=vB r:=by
 unfold Vm.zcl at Y
 refine zaz.of Tryz.func114 O O O O (sr (Nb O (ssr (mv h O (Lw.ln x0 f O (Lw.gt O (nl (cn Y (fun Y=>?_) fun Y=>?_))))))))
 ·exact sr (Nb O (.ret (rt Y (Le.refl _ _))))
 ·refine sk (ssr (mv h O (Lw.ln x0 f O (mi O (nl (Cw.block ?_))))))
  obtain⟨K8,av,Y⟩:=zbM Y
  refine Cw.loop 12 56 [2,3,4,6,12] (fun m l w=> ∃ B d j3 j4 J K,CW.w K=w/\Le [2,3] W0 K/\l=[vB B,j3,j4,J,vI d]/\Vm.zb2 x0 K8 m B d=some r) _ ⟨false,0,undef,undef,undef,W0,O,Le.refl _ _,O,Y⟩ ?_
  rintro(_ |m9) _ _ σ ⟨B,d,j3,j4,J,K,rfl,l7,rfl,Y⟩
  ·cases Y
  unfold Vm.zb2 at Y
  have i:=l7.s
  refine sr (Lw.lt O (nl (Cw.seq (cn Y (fun Y=>?_) fun Y=>?_))))
  ·refine sk (Cw.seq (Cw.block (sr (mi O ?_))))
   obtain⟨k,ai,Y⟩:=ob Y
   refine Lw.r O (R.ix (α:=File) (f.ul i) ai O O O) ?_
   obtain⟨x15,c16,_,r17⟩:=((f.ul i).at_ ai).cells
   obtain⟨bi,rfl,r19⟩:=File.split r17
   refine Lw.r O (R.lda c16 O O) (al 2 [vS ([]:Str), .slice none 0 0] fun aw bj aj ax=>?_)
   have C:=aj.o
   refine Gi O (sta ax (zaa O (zaa r19.oc za0)) fun ay ak am=>?_)
   have D:=ak.s
   refine nl (Cw.seq ?_)
   obtain⟨az,a0,Y⟩:=zbM Y
   refine Cw.join 17 41 [41] (fun l w=> ∃ L z,CW.w z=w/\Le [] ay z/\l=[vB L]/\az L=some r) ?_ ?_
   ·rintro _ _ σ ⟨L,z,rfl,M,rfl,Y⟩
    rw[a0]at Y
    have E:=((i.trans C).trans D).n M
    refine cn Y (fun Y=>?_) fun Y=>?_
    ·exact sr (Nb O (.ret (rt Y E)))
    ·refine sk (sr (mv h O (mi O ?_)))
     obtain⟨an,ao,Y⟩:=ob Y
     have r34:=(f.ul E).cutV ao
     refine Lw.r O (R.sl (f.ul E) ao O (.inl ⟨O,O⟩) (.inr O)) (Lw.ln an r34 O (mi O (nl (Cw.block ?_))))
     obtain⟨a1,a2,Y⟩:=zbM Y
     refine Cw.loop 46 55 [2,6,46] (fun m l w=> ∃ A F N G,CW.w G=w/\Le [3] z G/\l=[vB A,N,vI F]/\Vm.zbi k an a1 m A F=some r) _ ⟨B,0,J,z,O,Le.refl _ _,O,Y⟩ ?_
     rintro(_ |bk) _ _ σ ⟨A,F,N,G,rfl,H,rfl,Y⟩
     ·cases Y
     unfold Vm.zbi at Y
     have P:=H.s
     refine sr (Lw.lt O (nl (Cw.seq (cn Y (fun Y=>?_) fun Y=>?_))))
     ·refine sk (Cw.seq (Cw.block (sr ?_)))
      obtain⟨bl,ap,Y⟩:=ob Y
      refine Lw.r O (R.ix (α:=File) (r34.ul P) ap O O O) ?_
      obtain⟨x47,c48,_,r49⟩:=((r34.ul P).at_ ap).cells
      obtain⟨bm,rfl,r51⟩:=File.split r49
      refine Lw.r O (R.lda c48 O O) (al 3 [vS ([]:Str), .slice none 0 0] fun a3 bn Q a4=>?_)
      have a5:=(E.trans P).n Q
      refine sta a4 (zaa O (zaa r51.oc za0)) fun bp S a6=>?_
      have aq:=a5.t S
      refine nl (sr (fl a6 O (fl ((((am.up M).up H).up Q).up S) O (ca Y (fun _=>p170 (ac.ul aq)) fun bq a7 Y ar=>?_))))
      have a8:=aq.n ar
      refine nl (cn Y (fun Y=>?_) fun Y=>?_)
      ·exact sr (Nb O (.ret (rt Y a8)))
      ·exact sk (rg (Lw.add O (mi O (nl ((agm) ⟨A,w64 (F+1),ptr (bx a3),a7,O,(((H.j Q).j S).j ar).w,O,Y⟩)))))
     ·refine Cw.exit ?_
      rw[a2]at Y
      exact rg (Lw.add O (mi O (nl ((agm) ⟨A,w64 (d+1),vI d,ptr (bx aw),N,G,O,((((l7.j aj).j ak).j M).j H).w,O,Y⟩))))
   ·refine Cw.draw [] [(0,0),(1,1),(2,2),(3,0),(4,0),(5,0),(6,1),(7,2),(8,0),(9,0),(10,0),(11,0),(12,0),(13,0),(14,0),(15,0),(16,0),(17,0),(18,0),(19,1),(20,0),(21,1),(22,0),(23,0),(24,0)] mixed (by kernel_rfl) fun br x=>?_
    have U:=x.o
    have V:=am.up x
    refine Dfl V O O O ?_
    obtain⟨bu,a9,Y⟩:=ob Y
    refine Mw.t O O (T.call O (p174 (r19.ul ((C.trans D).trans U)) a9)) ?_
    rintro _ _ ⟨ba,rfl,y,rfl⟩
    have bb:=(((i.trans C).trans D).trans U).n y
    refine m0 y fun bc=>Mw.p O O (fun _=>R.not O) (Db O (bs Y (fun e Y=>?_) fun e Y=>?_))
    ·exact dps 4 e O (Mw.p O O (fun _=>R.pk e O (v:=vB true) O) (Db O (dps 3 O O (dpu 9 O (dps 1 O O (Mw.p O O (fun _=>R.pk O O (v:=vB true) O) (Mw.nil ((ag) ⟨true,ba,O,(x.j y).w,O,Y⟩))))))))
    ·refine Wp e O (fun _=>R.fa O) (Wq e O (fun _ c=>R.ld (v:=vS k.Path) O O (V.clc O O c)) ?_)
     obtain⟨be,bg,Y⟩:=ob Y
     refine Wt e O (T.call O (p162 (ac.ul bb) bg)) ?_
     rintro _ _ ⟨W,rfl,I,rfl⟩
     refine mc bc I fun bv=>Wp e O (fun _=>R.not O) (Mw.p O O (fun _=>R.pk e O (v:=vB (!be)) O) (Db O (bs Y (fun b Y=>?_) fun b Y=>?_)))
     ·exact dps 3 b O (dpu 9 O (dps 1 b O (Mw.p O O (fun _=>R.pk b O (v:=vB true) O) (Mw.nil ((ag) ⟨true,W,O,((x.j y).j I).w,O,Y⟩)))))
     ·refine Wp b O (fun _=>R.mv (v:=vI d) O) (Wp b O (fun _=>R.gt O O) (Wp b O (fun _=>R.mv (v:=vB (decide (0< (d:Int)))) O) (bs Y (fun a Y=>?_) fun a Y=>?_)))
      ·refine Wp a O (fun _=>R.mv (v:=h) O) (Wp a O (fun _=>R.mv (v:=vI d) O) (Wp a O (fun _=>R.sub O O) ?_))
       obtain⟨X,Z,Y⟩:=ob Y
       have aa:=f.ul (((i.trans C).trans D).trans U)
       exact Wp a O (fun _=>R.ix (α:=File) aa Z O O O) (Wp a O (fun _=>R.fa O) (Wq a O (fun _ c=>R.ld O O (zaB (File.at0 (aa.at_ Z)).1 O (File.at0 (aa.at_ Z)).str c)) (Wp a O (fun _=>R.fa O) (Wq a O (fun _ c=>R.ld (v:=vS k.Path) O O (V.clc O O c)) (Wp a O (fun _=>R.sge O O) (Wp b O (fun _=>R.pk a O (v:=vB (!Op.bytesLess X.Path k.Path)) O) (Mw.p O O (fun _=>R.pk b O (v:=vB (!Op.bytesLess X.Path k.Path)) O) (Mw.nil ((ag) ⟨(!Op.bytesLess X.Path k.Path),W,O,((x.j y).j I).w,O,Y⟩)))))))))
      ·exact dps 9 a O (Wp b O (fun _=>R.pk a O (v:=vB false) O) (Mw.p O O (fun _=>R.pk b O (v:=vB false) O) (Mw.nil ((ag) ⟨false,W,O,((x.j y).j I).w,O,Y⟩))))
  ·refine Cw.exit ?_
   rw[av]at Y
   exact sr (Nb O (.ret (rt Y i)))
theorem p114 {x0 a r}(b:Rd W K [a] x0)(d:Gl 0 W K)(Y:Vm.zcl x0=some r):Q1 114 [a] W [] fun W' v=>v=vB r:=
 (c114 (b.view _) (d.view _) Y).ad (fk 0) fun _ _ e=>e
theorem c89 {x0 a b x1 r}(f:Rd W0 [0] [a,b] x0)(Y:Vm.zbl x0 x1=some r):Q0 89 [.agg [a,b].toArray,vI x1] W0 fun Wf v=>v=vB r:=by
 unfold Vm.zbl at Y
 obtain⟨z,A,d,h,B⟩:=Repo.split f
 simp only[List.cons.injEq,and_true,true_and]at d
 obtain⟨rfl,rfl⟩:=d
 refine zaz.of Tryz.func89 O O O O (sr (bo 2 O fun C D i k=>?_))
 have e:=i.o
 refine Nb O (sr (mi O (fl k O (Lw.ln x0.Commits (h.ul e) O (Lw.sub O (ca Y (fun _=>p115) fun E F Y x=>?_))))))
 have y:=e.n x
 exact Nb O (.ret (rt Y y))
theorem p89 {x0 a b x1 r}(d:Rd W K [a,b] x0)(Y:Vm.zbl x0 x1=some r):Q1 89 [.agg [a,b].toArray,vI x1] W [] fun W' v=>v=vB r:=
 (c89 (d.view _) Y).ad (fk 0) fun _ _ e=>e
theorem c116 {x0 E F x1 k r}(h0:Rd W0 [0] [E,F] x0)(f:Rd W0 [0] [k] x1)(Y:Vm.zeq x0 x1=some r):Q0 116 [.agg [E,F].toArray,k] W0 fun Wf v=>v=vB r:=by
 unfold Vm.zeq at Y
 obtain⟨a3,a4,S,af,ah⟩:=Repo.split h0
 simp only[List.cons.injEq,and_true,true_and]at S
 obtain⟨rfl,rfl⟩:=S
 refine zaz.of Tryz.func116 O O O O (sr (bo 2 O fun g1 U l1 b1=>?_))
 have y:=l1.o
 refine Nb O (ssr (mv k O (Lw.ln x1 (f.ul y) O (Lw.gt O (nl (cn Y (fun Y=>?_) fun Y=>?_))))))
 ·exact sr (Nb O (.ret (rt Y y)))
 ·refine sk (ssr (mv k O (Lw.ln x1 (f.ul y) O (mi O (nl (Cw.block ?_))))))
  obtain⟨ak,am,Y⟩:=zbM Y
  refine Cw.loop 12 43 [4,5,6,12] (fun m l w=> ∃ z e V W G,CW.w G=w/\Le [3] U G/\l=[vB z,V,W,vI e]/\Vm.zbE x0 x1 ak m z e=some r) _ ⟨false,0,undef,undef,U,O,Le.refl _ _,O,Y⟩ ?_
  rintro(_ |a6) _ _ σ ⟨z,e,V,W,G,rfl,H,rfl,Y⟩
  ·cases Y
  unfold Vm.zbE at Y
  have A:=y.t H
  refine sr (Lw.lt O (nl (Cw.seq (cn Y (fun Y=>?_) fun Y=>?_))))
  ·refine sk (Cw.seq (Cw.block (sr (mi O ?_))))
   obtain⟨x,X,Y⟩:=ob Y
   refine Lw.r O (R.ix (α:=Head) (f.ul A) X O O O) ?_
   obtain⟨x18,c19,_,r20⟩:=((f.ul A).at_ X).cells
   obtain rfl:=Head.split r20
   refine Lw.r O (R.lda c19 O O) (al 3 [vS ([]:Str),vI 0] fun an a7 I ao=>?_)
   have ap:=A.n I
   refine Gi O (sta ao (zaa O (zaa O za0)) fun aq J ar=>?_)
   have Z:=ap.t J
   refine nl ?_
   obtain⟨au,av,Y⟩:=zbM Y
   refine Cw.join 17 42 [42] (fun l w=> ∃ L B,CW.w B=w/\Le [] aq B/\l=[vB L]/\au L=some r) ?_ ?_
   ·rintro _ _ σ ⟨L,B,rfl,aa,rfl,Y⟩
    rw[av]at Y
    have aw:=Z.n aa
    refine cn Y (fun Y=>?_) fun Y=>?_
    ·exact sr (Nb O (.ret (rt Y aw)))
    ·exact sk (rg (Lw.add O (mi O (nl ((agm) ⟨z,w64 (e+1),vI e,ptr (bx an),B,O,(((H.j I).j J).j aa).w,O,Y⟩)))))
   ·refine Cw.draw [] [(0,0),(1,1),(2,2),(3,0),(4,0),(5,1),(6,0),(7,1),(8,2),(9,0),(10,0),(11,0),(12,0),(13,0),(14,0),(15,0),(16,0),(17,0),(18,0),(19,0),(20,1),(21,0),(22,1),(23,0),(24,0),(25,0)] mixed (by kernel_rfl) fun a8 h=>?_
    have C:=Z.n h
    have M:=ar.up h
    refine Dfl M O O O ?_
    obtain⟨a9,ax,Y⟩:=ob Y
    refine Mw.t O O (T.call O (p113 ax)) ?_
    rintro _ _ ⟨ay,rfl,i,rfl⟩
    have ac:=C.n i
    refine m0 i fun az=>Mw.p O O (fun _=>R.not O) (Db O (bs Y (fun d Y=>?_) fun d Y=>?_))
    ·exact dps 5 d O (Mw.p O O (fun _=>R.pk d O (v:=vB true) O) (Db O (dps 3 O O (dpu 9 O (dps 1 O O (Mw.p O O (fun _=>R.pk O O (v:=vB true) O) (Mw.nil ((ag) ⟨true,ay,O,(h.j i).w,O,Y⟩))))))))
    ·refine Wq d O (fun _ c=>R.lda (cs:=[E,F]) (((((b1.up H).up I).up J).up h).clcs O c) O O) (Wp d O (fun _=>R.fa O) (Wq d O (fun _ c=>R.ld (v:=vI x.At) O O (M.clc O O c)) ?_))
     obtain⟨a0,a1,Y⟩:=ob Y
     refine Wt d O (T.call O (p89 (Repo.rd (K:=[0]) x0.Commits x0.Heads (af.ul ac) (ah.ul ac)) a1)) ?_
     rintro _ _ ⟨N,rfl,D,rfl⟩
     refine mc az D fun ba=>Wp d O (fun _=>R.not O) (Mw.p O O (fun _=>R.pk d O (v:=vB (!a0)) O) (Db O (bs Y (fun b Y=>?_) fun b Y=>?_)))
     ·exact dps 3 b O (dpu 9 O (dps 1 b O (Mw.p O O (fun _=>R.pk b O (v:=vB true) O) (Mw.nil ((ag) ⟨true,N,O,((h.j i).j D).w,O,Y⟩)))))
     ·refine Wp b O (fun _=>R.mv (v:=vI e) O) (Wp b O (fun _=>R.gt O O) (Wp b O (fun _=>R.mv (v:=vB (decide (0< (e:Int)))) O) (bs Y (fun a Y=>?_) fun a Y=>?_)))
      ·refine Wp a O (fun _=>R.mv (v:=k) O) (Wp a O (fun _=>R.mv (v:=vI e) O) (Wp a O (fun _=>R.sub O O) ?_))
       obtain⟨P,Q,Y⟩:=ob Y
       exact Wp a O (fun _=>R.ix (α:=Head) (f.ul C) Q O O O) (Wp a O (fun _=>R.fa O) (Wq a O (fun _ c=>R.ld O O (zaB (Head.at0 ((f.ul C).at_ Q)).1 O (Head.at0 ((f.ul C).at_ Q)).str c)) (Wp a O (fun _=>R.fa O) (Wq a O (fun _ c=>R.ld (v:=vS x.Name) O O (M.clc O O c)) (Wp a O (fun _=>R.sge O O) (Wp b O (fun _=>R.pk a O (v:=vB (!Op.bytesLess P.Name x.Name)) O) (Mw.p O O (fun _=>R.pk b O (v:=vB (!Op.bytesLess P.Name x.Name)) O) (Mw.nil ((ag) ⟨(!Op.bytesLess P.Name x.Name),N,O,((h.j i).j D).w,O,Y⟩)))))))))
      ·exact dps 9 a O (Wp b O (fun _=>R.pk a O (v:=vB false) O) (Mw.p O O (fun _=>R.pk b O (v:=vB false) O) (Mw.nil ((ag) ⟨false,N,O,((h.j i).j D).w,O,Y⟩))))
  ·refine Cw.exit ?_
   rw[am]at Y
   exact sr (Nb O (.ret (rt Y A)))
theorem p116 {x0 a b x1 d r}(f:Rd W K [a,b] x0)(h:Rd W K [d] x1)(Y:Vm.zeq x0 x1=some r):Q1 116 [.agg [a,b].toArray,d] W [] fun W' v=>v=vB r:=
 (c116 (f.view _) (h.view _) Y).ad (fk 0) fun _ _ e=>e
theorem c43 {x0 ae af r}(h0:Rd W0 [0] [ae,af] x0)(ah:Gl 0 W0 [0])(Y:Vm.zdE x0=some r):Q0 43 [.agg [ae,af].toArray] W0 fun Wf v=>v=vB r:=by
 unfold Vm.zdE at Y
 obtain⟨b9,cb,ai,C,aj⟩:=Repo.split h0
 simp only[List.cons.injEq,and_true,true_and]at ai
 obtain⟨rfl,rfl⟩:=ai
 refine zaz.of Tryz.func43 O O O O (sr (bo 2 O fun g1 W1 l1 G=>?_))
 have H:=l1.o
 refine Nb O (ssr (fl G O (Lw.ln x0.Commits (C.ul H) O (Lw.gt O (nl (cn Y (fun Y=>?_) fun Y=>?_))))))
 ·exact sr (Nb O (.ret (rt Y H)))
 ·refine sk (ssr (fl G O (Lw.ln x0.Commits (C.ul H) O (mi O (nl (Cw.block ?_))))))
  obtain⟨bb,bc,Y⟩:=zbM Y
  refine Cw.loop 14 65 [2,3,4,6,14] (fun m l w=> ∃ I B j6 j7 Q S,CW.w S=w/\Le [3] W1 S/\l=[vB I,j6,j7,Q,vI B]/\Vm.zb3 x0 bb m I B=some r) _ ⟨false,0,undef,undef,undef,W1,O,Le.refl _ _,O,Y⟩ ?_
  rintro(_ |cd) _ _ σ ⟨I,B,j6,j7,Q,S,rfl,l10,rfl,Y⟩
  ·cases Y
  unfold Vm.zb3 at Y
  have d:=H.t l10
  refine sr (Lw.lt O (nl (Cw.seq (cn Y (fun Y=>?_) fun Y=>?_))))
  ·refine sk (Cw.seq (Cw.block (sr (mi O ?_))))
   obtain⟨A,ao,Y⟩:=ob Y
   refine Lw.r O (R.ix (α:=Commit) (C.ul d) ao O O O) ?_
   obtain⟨x19,c20,_,r21⟩:=((C.ul d).at_ ao).cells
   obtain⟨U,ap,rfl,r23,r25⟩:=Commit.split r21
   refine Lw.r O (R.lda c20 O O) (al 3 [.slice none 0 0,vS ([]:Str), .slice none 0 0] fun be ce aq bg=>?_)
   have e:=aq.o
   refine Gi O (sta bg (zaa r23.oc (zaa O (zaa r25.oc za0))) fun bh ar au=>?_)
   have f:=ar.s
   refine nl (Cw.seq ?_)
   obtain⟨bi,bj,Y⟩:=zbM Y
   refine Cw.join 19 51 [51] (fun l w=> ∃ V D,CW.w D=w/\Le [] bh D/\l=[vB V]/\bi V=some r) ?_ ?_
   ·rintro _ _ σ ⟨V,D,rfl,W,rfl,Y⟩
    rw[bj]at Y
    have J:=W.o
    refine cn Y (fun Y=>?_) fun Y=>?_
    ·exact sr (Nb O (.ret (rt Y (((d.trans e).trans f).trans J))))
    ·refine sk (sr (fl (au.up W) O (Lw.ln A.Parents (r23.ul ((e.trans f).trans J)) O (mi O (nl (Cw.block ?_))))))
     obtain⟨bk,bl,Y⟩:=zbM Y
     refine Cw.loop 55 64 [2,6,55] (fun m l w=> ∃ E L X M,CW.w M=w/\Le [] D M/\l=[vB E,X,vI L]/\Vm.zbj B A bk m E L=some r) _ ⟨I,0,Q,D,O,Le.refl _ _,O,Y⟩ ?_
     rintro(_ |cf) _ _ σ ⟨E,L,X,M,rfl,Z,rfl,Y⟩
     ·cases Y
     unfold Vm.zbj at Y
     have av:=Z.o
     refine sr (Lw.lt O (nl (Cw.seq (cn Y (fun Y=>?_) fun Y=>?_))))
     ·refine sk (Cw.seq (Cw.block (sr ?_)))
      obtain⟨bm,aw,Y⟩:=ob Y
      have ax:=r23.ul (((e.trans f).trans J).trans av)
      refine Lw.r O (R.ix (α:=Int) ax aw O O O) (Lw.r O (R.ld O O (ax.at_ aw).int) (Ni O (sr (mi O (mi O (Lw.sub O (ca Y (fun _=>p115) fun cg bn Y ay=>?_)))))))
      have bp:=((((d.trans e).trans f).trans J).trans av).n ay
      refine Lw.r O (R.not O) (nl (cn Y (fun Y=>?_) fun Y=>?_))
      ·exact sr (Nb O (.ret (rt Y bp)))
      ·exact sk (rg (Lw.add O (mi O (nl ((agm) ⟨E,w64 (L+1),vI bm,bn,O,(Z.j ay).w,O,Y⟩)))))
     ·refine Cw.exit ?_
      rw[bl]at Y
      exact rg (Lw.add O (mi O (nl ((agm) ⟨E,w64 (B+1),vI B,ptr (bx be),X,M,O,((((l10.j aq).j ar).j W).j Z).w,O,Y⟩))))
   ·refine Cw.draw [] [(0,0),(1,1),(2,0),(3,0),(4,0),(5,0),(6,1),(7,0),(8,0),(9,0),(10,0),(11,1),(12,0),(13,1),(14,0),(15,1),(16,0),(17,1),(18,0),(19,0),(20,0),(21,0),(22,0),(23,1),(24,2),(25,0),(26,0),(27,0),(28,0),(29,1),(30,2),(31,0),(32,0)] mixed (by kernel_rfl) fun az h=>?_
    have F:=h.o
    have i:=au.up h
    have k:=r23.ul ((e.trans f).trans F)
    refine Dfl i O O O (Mw.p O O (fun _=>ztT (xs:=A.Parents) k O) (Mw.p O O (fun _=>R.gt O O) (Db O (bs Y (fun a Y=>?_) fun a Y=>?_))))
    ·exact dps 5 a O (dpu 9 O (dps 1 a O (Mw.p O O (fun _=>R.pk a O (v:=vB true) O) (Db O (dps 4 O O (Mw.p O O (fun _=>R.pk O O (v:=vB true) O) (Db O (dps 4 O O (Mw.p O O (fun _=>R.pk O O (v:=vB true) O) (Mw.nil ((ag) ⟨true,az,O,h,O,Y⟩)))))))))))
    ·refine Wp a O (fun _=>R.fa O) (Wq a O (fun _ c=>R.ld (v:=U) O O (i.clc O O c)) (Wp a O (fun _=>ztT (xs:=A.Parents) k O) (Wp a O (fun _=>R.eq O O) (Wp a O (fun _=>R.mv (v:=vB ((A.Parents.length:Int)==2)) O) (bs Y (fun b Y=>?_) fun b Y=>?_)))))
     ·refine Wp b O (fun _=>R.fa O) (Wq b O (fun _ c=>R.ld (v:=U) O O (i.clc O O c)) ?_)
      obtain⟨a0,aa,Y⟩:=ob Y
      refine Wp b O (fun _=>R.ix (α:=Int) k aa O O O) (Wq b O (fun _ c=>R.ld O O (zaB (k.at_ aa).1 O (k.at_ aa).int c)) (Wp b O (fun _=>R.fa O) (Wq b O (fun _ c=>R.ld (v:=U) O O (i.clc O O c)) ?_)))
      obtain⟨a1,ac,Y⟩:=ob Y
      refine Wp b O (fun _=>R.ix (α:=Int) k ac O O O) (Wq b O (fun _ c=>R.ld O O (zaB (k.at_ ac).1 O (k.at_ ac).int c)) (Wp b O (fun _=>R.eq O O) (Wp a O (fun _=>R.pk b O (v:=vB ((a0:Int)==(a1:Int))) O) (Mw.p O O (fun _=>R.pk a O (v:=vB ((a0:Int)==(a1:Int))) O) (Db O (bs Y (fun x Y=>?_) fun x Y=>?_))))))
      ·exact dps 4 x O (Mw.p O O (fun _=>R.pk x O (v:=vB true) O) (Db O (dps 4 O O (Mw.p O O (fun _=>R.pk O O (v:=vB true) O) (Mw.nil ((ag) ⟨true,az,O,h,O,Y⟩))))))
      ·refine Wp x O (fun _=>R.fa O) (Wq x O (fun _ c=>R.ld (v:=vS A.Who) O O (i.clc O O c)) ?_)
       obtain⟨bq,br,Y⟩:=ob Y
       refine Wt x O (T.call O (p113 br)) ?_
       rintro _ _ ⟨bu,rfl,N,rfl⟩
       have a3:=N.o
       refine m0 N fun bv=>Wp x O (fun _=>R.not O) (Mw.p O O (fun _=>R.pk x O (v:=vB (!bq)) O) (Db O (bs Y (fun y Y=>?_) fun y Y=>?_)))
       ·exact dps 4 y O (Mw.p O O (fun _=>R.pk y O (v:=vB true) O) (Mw.nil ((ag) ⟨true,bu,O,(h.j N).w,O,Y⟩)))
       ·refine Wp y O (fun _=>R.fa O) (Wq y O (fun _ c=>R.ld (v:=ap) O O (i.clc O O c)) ?_)
        obtain⟨a4,bw,Y⟩:=ob Y
        refine Wt y O (T.call O (p114 (r25.ul (((e.trans f).trans F).trans a3)) (ah.ul ((((d.trans e).trans f).trans F).trans a3)) bw)) ?_
        rintro _ _ ⟨bz,rfl,a5,rfl⟩
        exact mc bv a5 fun ch=>Wp y O (fun _=>R.not O) (Mw.p O O (fun _=>R.pk y O (v:=vB (!a4)) O) (Mw.nil ((ag) ⟨(!a4),bz,O,((h.j N).j a5).w,O,Y⟩)))
     ·refine dps 9 b O (Wp a O (fun _=>R.pk b O (v:=vB false) O) (Mw.p O O (fun _=>R.pk a O (v:=vB false) O) (Db O (Wp O O (fun _=>R.fa O) (Wq O O (fun _ c=>R.ld (v:=vS A.Who) O O (i.clc O O c)) ?_)))))
      obtain⟨b0,b2,Y⟩:=ob Y
      refine Wt O O (T.call O (p113 b2)) ?_
      rintro _ _ ⟨b3,rfl,P,rfl⟩
      have a6:=P.o
      refine m0 P fun b4=>Wp O O (fun _=>R.not O) (Mw.p O O (fun _=>R.pk O O (v:=vB (!b0)) O) (Db O (bs Y (fun z Y=>?_) fun z Y=>?_)))
      ·exact dps 4 z O (Mw.p O O (fun _=>R.pk z O (v:=vB true) O) (Mw.nil ((ag) ⟨true,b3,O,(h.j P).w,O,Y⟩)))
      ·refine Wp z O (fun _=>R.fa O) (Wq z O (fun _ c=>R.ld (v:=ap) O O (i.clc O O c)) ?_)
       obtain⟨a7,b5,Y⟩:=ob Y
       refine Wt z O (T.call O (p114 (r25.ul (((e.trans f).trans F).trans a6)) (ah.ul ((((d.trans e).trans f).trans F).trans a6)) b5)) ?_
       rintro _ _ ⟨b6,rfl,a8,rfl⟩
       exact mc b4 a8 fun ci=>Wp z O (fun _=>R.not O) (Mw.p O O (fun _=>R.pk z O (v:=vB (!a7)) O) (Mw.nil ((ag) ⟨(!a7),b6,O,((h.j P).j a8).w,O,Y⟩)))
  ·refine Cw.exit ?_
   rw[bc]at Y
   refine sr (la (G.up l10) (fl (G.up l10) O (ca Y (fun _=>p116 (Repo.rd (K:=[0]) x0.Commits x0.Heads (C.ul d) (aj.ul d)) (aj.ul d)) fun cj ck Y b7=>?_)))
   have b8:=d.n b7
   exact Nb O (.ret (rt Y b8))
theorem p43 {x0 a b r}(d:Rd W K [a,b] x0)(f:Gl 0 W K)(Y:Vm.zdE x0=some r):Q1 43 [.agg [a,b].toArray] W [] fun W' v=>v=vB r:=
 (c43 (d.view _) (f.view _) Y).ad (fk 0) fun _ _ e=>e
theorem c88 {x0 h i x1 r}(F:Rd W0 [0] [h,i] x0)(Y:Vm.zcM x0 x1=some r):Q0 88 [.agg [h,i].toArray,vS x1] W0 fun Wf v=>v=vI r:=by
 unfold Vm.zcM at Y
 obtain⟨Q,S,k,T,e⟩:=Repo.split F
 simp only[List.cons.injEq,and_true,true_and]at k
 obtain⟨rfl,rfl⟩:=k
 refine zaz.of Tryz.func88 O O O O (sr (bo 2 O fun U x G H=>?_))
 have y:=G.o
 refine Ni O (ssr (fl H O (Lw.ln x0.Heads (e.ul y) O (mi O (nl (Cw.block ?_))))))
 obtain⟨I,J,Y⟩:=zbM Y
 refine Cw.loop 10 20 [4,6,10] (fun m l w=> ∃ a b z f,CW.w f=w/\Le [3] x f/\l=[vI a,z,vI b]/\Vm.zbF x0 x1 I m a b=some r) _ ⟨0,0,undef,x,O,Le.refl _ _,O,Y⟩ ?_
 rintro(_ |V) _ _ σ ⟨a,b,z,f,rfl,A,rfl,Y⟩
 ·cases Y
 unfold Vm.zbF at Y
 have d:=y.t A
 refine sr (Lw.lt O (nl (Cw.seq (cn Y (fun Y=>?_) fun Y=>?_))))
 ·refine sk (Cw.seq (Cw.block (sr ?_)))
  obtain⟨W,B,Y⟩:=ob Y
  refine Lw.r O (R.ix (α:=Head) (e.ul d) B O O O) ?_
  obtain⟨x16,c17,_,r18⟩:=((e.ul d).at_ B).cells
  obtain rfl:=Head.split r18
  refine Lw.r O (R.lda c17 O O) (al 3 [vS ([]:Str),vI 0] fun K X C L=>?_)
  have M:=d.n C
  refine sta L (zaa O (zaa O za0)) fun N D E=>?_
  have P:=M.t D
  refine nl (sr (fl E O (ms O (Lw.seq O (nl (cn Y (fun Y=>?_) fun Y=>?_))))))
  ·exact sr (fl E O (Ni O (.ret (rt Y P))))
  ·exact sk (rg (Lw.add O (mi O (nl ((agm) ⟨a,w64 (b+1),ptr (bx K),N,O,((A.j C).j D).w,O,Y⟩)))))
 ·refine Cw.exit ?_
  rw[J]at Y
  exact sr (Ni O (.ret (rt Y d)))
theorem p88 {x0 a b x1 r}(d:Rd W K [a,b] x0)(Y:Vm.zcM x0 x1=some r):Q1 88 [.agg [a,b].toArray,vS x1] W [] fun W' v=>v=vI r:=
 (c88 (d.view _) Y).ad (fk 0) fun _ _ e=>e
theorem c168 {x0 a r}(f:Rd W0 [0] [a] x0)(Y:Vm.zb6 x0=some r):Q0 168 [a] W0 fun Wf v=> ∃ b,v=b/\OwS Wf LL [] [b] r:=by
 unfold Vm.zb6 at Y
 refine zaz.of Tryz.func168 O O O O (sr (Nv (.slice none 0 0) O (sr (Lw.t O (T.lit0 (α:=Str) 2 []) ?_))))
 rintro A _ ⟨B,rfl,h,i⟩
 have d:=h.o
 refine mv a O ?_
 obtain⟨C,k,Y⟩:=ob Y
 refine Lw.t O (T.appP (α:=Str) i (f.ul d) O O k) ?_
 rintro e _ ⟨D,rfl,x,y⟩
 have z:=d.t x
 refine Nv e O ?_
 cases Y
 exact Cw.ret (zkN O (Res.mk z ⟨e,O,y.s.sub O O⟩))
theorem p168 {x0 b k0 r}(d:Rd W K [b] x0)(Y:Vm.zb6 x0=some r):Q1 168 [b] W [] fun W' v=> ∃ a,v=a/\Ow W' k0 [] [a] r:=
 (c168 (d.view _) Y).ad (fk k0) fun _ _ ⟨a,e,f⟩=>⟨a,e,f.back (ziQ _)⟩
theorem c105 {x0 b d x1 r}(x:Rd W0 [0] [b,d] x0)(Y:Vm.zau x0 x1=some r):Q0 105 [.agg [b,d].toArray,vI x1] W0 fun Wf v=> ∃ e,v=e/\Rd Wf [0] [e] r:=by
 unfold Vm.zau at Y
 obtain⟨A,B,f,h,C⟩:=Repo.split x
 simp only[List.cons.injEq,and_true,true_and]at f
 obtain⟨rfl,rfl⟩:=f
 refine zaz.of Tryz.func105 O O O O (sr (bo 2 O fun D E y z=>?_))
 have a:=y.o
 refine Nv (.slice none 0 0) O (ssr (mi O (Lw.lt O (nl (cn Y (fun Y=>?_) fun Y=>?_)))))
 ·refine sr (Nv (.slice none 0 0) O ?_)
  cases Y
  exact Cw.ret (zkN O (Res.mk a ⟨.slice none 0 0,O,(rdN (K:=[0]))⟩))
 ·refine sk (sr (fl z O (mi O ?_)))
  obtain⟨F,i,Y⟩:=ob Y
  refine Lw.r O (R.ix (α:=Commit) (h.ul a) i O O O) (Lw.fa O ?_)
  obtain⟨k,c8,r9⟩:=(Commit.at2 ((h.ul a).at_ i)).cell O
  refine Lw.r O (R.ld O O c8) (Nv k O ?_)
  cases Y
  exact Cw.ret (zkN O (Res.mk a ⟨k,O,r9⟩))
theorem p105 {x0 b d x1 r}(f:Rd W K [b,d] x0)(Y:Vm.zau x0 x1=some r):Q1 105 [.agg [b,d].toArray,vI x1] W [] fun W' v=> ∃ a,v=a/\Rd W' (0::K) [a] r:=
 (c105 (f.view _) Y).ad (fk 0) fun _ _ ⟨a,e,h⟩=>⟨a,e,h.back O⟩
theorem c165 {x0 i x1 r}(k:Rd W0 [0] [i] x0)(Y:Vm.zgJ x0 x1=some r):Q0 165 [i,vS x1] W0 fun Wf v=> ∃ z,v = .tuple [z,vB r.2].toArray/\OwS Wf LL [] [z] r.1:=by
 unfold Vm.zgJ at Y
 refine zaz.of Tryz.func165 O O O O (sr (Gv (.slice none 0 0) O (Nb O (ssr (mv i O (Lw.ln x0 k O (mi O (nl (Cw.block ?_)))))))))
 obtain⟨H,I,Y⟩:=zbM Y
 refine Cw.loop 10 21 [4,5,7,10] (fun m l w=> ∃ a b d e A f,CW.w f=w/\Le [3] W0 f/\l=[e,vB b,A,vI d]/\Ow f 2 [] [e] a/\Vm.zc2 x0 x1 H m a b d=some r) _ ⟨([]:List Str),false,0, .slice none 0 0,undef,W0,O,Le.refl _ _,O,owN 2 [],Y⟩ ?_
 rintro(_ |S) _ _ σ ⟨a,b,d,e,A,f,rfl,B,rfl,J,Y⟩
 ·cases Y
 unfold Vm.zc2 at Y
 have h:=B.s
 refine sr (Lw.lt O (nl (Cw.seq (cn Y (fun Y=>?_) fun Y=>?_))))
 ·refine sk (Cw.seq (Cw.block (sr ?_)))
  obtain⟨T,C,Y⟩:=ob Y
  refine Lw.r O (R.ix (α:=File) (k.ul h) C O O O) ?_
  obtain⟨x15,c16,_,r17⟩:=((k.ul h).at_ C).cells
  obtain⟨U,rfl,r19⟩:=File.split r17
  refine Lw.r O (R.lda c16 O O) (al 3 [vS ([]:Str), .slice none 0 0] fun K V x L=>?_)
  have D:=x.o
  refine sta L (zaa O (zaa r19.oc za0)) fun M y E=>?_
  have F:=y.s
  refine nl (sr (fl E O (ms O (Lw.seq O (nl (cn Y (fun Y=>?_) fun Y=>?_))))))
  ·refine sr (fl E O (cr Y (fun _=>p168 (k0:=4) (r19.ul (D.trans F))) ?_))
   rintro W G X Y N ⟨_,rfl,P⟩
   have Q:=((h.trans D).trans F).n N
   refine Gv G O (Nb O ?_)
   cases Y
   exact Cw.ret (zp3 O O (Res.mk Q ⟨G,O,P.s.sub O O⟩))
  ·exact sk (rg (Lw.add O (mi O (nl ((agm) ⟨a,b,w64 (d+1),e,ptr (bx K),M,O,((B.j x).j y).w,O,((J.up x).up y),Y⟩)))))
 ·refine Cw.exit ?_
  rw[I]at Y
  refine sr (Gv (.slice none 0 0) O (Nb O ?_))
  cases Y
  exact Cw.ret (zp3 O O (Res.mk h ⟨.slice none 0 0,O,(znU []).sub O O⟩))
theorem p165 {x0 b x1 k0 r}(d:Rd W K [b] x0)(Y:Vm.zgJ x0 x1=some r):Q1 165 [b,vS x1] W [] fun W' v=> ∃ a,v = .tuple [a,vB r.2].toArray/\Ow W' k0 [] [a] r.1:=
 (c165 (d.view _) Y).ad (fk k0) fun _ _ ⟨a,e,f⟩=>⟨a,e,f.back (ziQ _)⟩
theorem c166 {x0 b x1 f r}(d:Rd W0 [0] [b] x0)(h:Rd W0 [0] [f] x1)(Y:Vm.zay x0 x1=some r):Q0 166 [b,f] W0 fun Wf v=>v=vB r:=by
 unfold Vm.zay at Y
 refine zaz.of Tryz.func166 O O O O (sr (Nb O (ssr (mv b O (Lw.ln x0 d O (mv f O (Lw.ln x1 h O (Lw.ne O (nl (cn Y (fun Y=>?_) fun Y=>?_))))))))))
 ·exact sr (Nb O (.ret (rt Y (Le.refl _ _))))
 ·refine sk (ssr (mv b O (Lw.ln x0 d O (mi O (nl (Cw.block ?_))))))
  obtain⟨C,D,Y⟩:=zbM Y
  refine Cw.loop 13 25 [4,5,13] (fun m l w=> ∃ i e z k,CW.w k=w/\Le [] W0 k/\l=[vB i,z,vI e]/\Vm.zar x0 x1 C m i e=some r) _ ⟨false,0,undef,W0,O,Le.refl _ _,O,Y⟩ ?_
  rintro(_ |F) _ _ σ ⟨i,e,z,k,rfl,A,rfl,Y⟩
  ·cases Y
  unfold Vm.zar at Y
  have B:=A.o
  refine sr (Lw.lt O (nl (Cw.seq (cn Y (fun Y=>?_) fun Y=>?_))))
  ·refine sk (Cw.seq (Cw.block (sr (mi O (Ni O (Cw.seq (Cw.draw [] [(0,0),(1,0),(2,0),(3,1),(4,0),(5,0),(6,0),(7,1),(8,0)] mixed (by kernel_rfl) fun E l10=>?_)))))))
   have a:=B.n l10
   refine Dv b O (Di O ?_)
   obtain⟨G,x,Y⟩:=ob Y
   refine Mw.p O O (fun _=>R.ix (α:=Str) (d.ul a) x O O O) (Mw.q O O (fun _ c=>R.ld O O (zaB ((d.ul a).at_ x).1 O ((d.ul a).at_ x).str c)) (Dv f O (Di O ?_)))
   obtain⟨H,y,Y⟩:=ob Y
   refine Mw.p O O (fun _=>R.ix (α:=Str) (h.ul a) y O O O) (Mw.q O O (fun _ c=>R.ld O O (zaB ((h.ul a).at_ y).1 O ((h.ul a).at_ y).str c)) (Mw.p O O (fun _=>R.sne O O) (Mw.nil (cn Y (fun Y=>?_) fun Y=>?_))))
   ·exact sr (Nb O (.ret (rt Y a)))
   ·exact sk (rg (Lw.add O (mi O (nl ((agm) ⟨i,w64 (e+1),vI e,E,O,(A.j l10).w,O,Y⟩)))))
  ·refine Cw.exit ?_
   rw[D]at Y
   exact sr (Nb O (.ret (rt Y B)))
theorem p166 {x0 a x1 b r}(d:Rd W K [a] x0)(f:Rd W K [b] x1)(Y:Vm.zay x0 x1=some r):Q1 166 [a,b] W [] fun W' v=>v=vB r:=
 (c166 (d.view _) (f.view _) Y).ad (fk 0) fun _ _ e=>e
theorem c232 {x0 k x1 x r}(y:Rd W0 [0] [k] x0)(z:Rd W0 [0] [x] x1)(Y:Vm.ziT x0 x1=some r):Q0 232 [k,x] W0 fun Wf v=> ∃ u0,v=u0/\OwS Wf LL [] [u0] r:=by
 unfold Vm.ziT at Y
 refine zaz.of Tryz.func232 O O O O (sr (Nv (.slice none 0 0) O (sr (mv k O (Lw.ln x0 y O (Lw.add O ?_))))))
 obtain⟨M,e2,Y⟩:=ob Y
 refine Lw.t O (T.mk (α:=List Int) 2 [] (n:=w64 ((x0.length:Int)+1)) O O e2) ?_
 rintro a _ ⟨W3,rfl,l3,o3⟩
 have a4:=l3.o
 refine Nv a O (ssr (mv a O (Lw.ln M o3.rd O (mi O (nl (Cw.block ?_))))))
 obtain⟨a3,a5,Y⟩:=zbM Y
 refine Cw.loop 15 25 [6,15] (fun m l w=> ∃ A F j5 e,CW.w e=w/\Le [2,3] W3 e/\l=[j5,vI A]/\Ow e 2 [] [a] F/\Vm.zdp x1 M a3 m A F=some r) _ ⟨0,M,undef,W3,O,Le.refl _ _,O,o3,Y⟩ ?_
 rintro(_ |cg) _ _ σ ⟨A,F,j5,e,rfl,l9,rfl,N,Y⟩
 ·cases Y
 unfold Vm.zdp at Y
 have P:=a4.t l9
 refine sr (Lw.lt O (nl (Cw.seq (cn Y (fun Y=>?_) fun Y=>?_))))
 ·refine sk (Cw.seq (Cw.block (sr (mi O (Ni O (rg (mv a O (mi O (mv x O (Lw.ln x1 (z.ul P) O (Lw.add O ?_)))))))))))
  obtain⟨ch,a6,Y⟩:=ob Y
  refine Lw.t O (T.mk (α:=Int) 3 [] (n:=w64 ((x1.length:Int)+1)) O O a6) ?_
  rintro ci _ ⟨cj,rfl,Q,ao⟩
  obtain⟨ck,a7,Y⟩:=ob Y
  refine Lw.r O (R.ix (α:=List Int) (N.up Q).rd a7 O O O) ?_
  obtain⟨a8,a9,Y⟩:=ob Y
  refine Lw.u (T.stO (J:=[3]) (N.up Q) ao.s a9 O O (zrk ao.oc)) ?_
  rintro _ _ ⟨ba,rfl,bb,bc⟩
  exact nl (rg (Lw.add O (mi O (nl ((agm) ⟨w64 (A+1),a8,vI A,ba,O,((l9.j Q).j bb).w,O,bc,Y⟩)))))
 ·refine Cw.exit ?_
  rw[a5]at Y
  refine ssr (mv k O (Lw.ln x0 (y.ul P) O (Lw.sub O (Ni O (Cw.block ?_)))))
  obtain⟨be,bg,Y⟩:=zbM Y
  refine Cw.loop 29 87 [7,8] (fun m l w=> ∃ B G ap f,CW.w f=w/\Le [2,4,5] e f/\l=[vI B,ap]/\Ow f 2 [] [a] G/\Vm.zcm x0 x1 be m B G=some r) _ ⟨w64 ((x0.length:Int)-1),F,undef,e,O,Le.refl _ _,O,N,Y⟩ ?_
  rintro(_ |cl) _ _ σ ⟨B,G,ap,f,rfl,aq,rfl,ar,Y⟩
  ·cases Y
  unfold Vm.zcm at Y
  have S:=P.t aq
  refine ssr (mi O (Lw.ge O (nl (cn Y (fun Y=>?_) fun Y=>?_))))
  ·refine sk (Cw.seq (Cw.block (sr (mv x O (Lw.ln x1 (z.ul S) O (Lw.sub O (Ni O (Cw.block ?_))))))))
   obtain⟨bh,bi,Y⟩:=zbM Y
   refine Cw.loop 36 87 [8] (fun m l w=> ∃ C H h,CW.w h=w/\Le [2,4,5] f h/\l=[vI C]/\Ow h 2 [] [a] H/\Vm.zdo x0 x1 B bh m C H=some r) _ ⟨w64 ((x1.length:Int)-1),G,f,O,Le.refl _ _,O,ar,Y⟩ ?_
   rintro(_ |cm) _ _ σ ⟨C,H,h,rfl,U,rfl,V,Y⟩
   ·cases Y
   unfold Vm.zdo at Y
   have bj:=S.t U
   refine ssr (mi O (Lw.ge O (nl (cn Y (fun Y=>?_) fun Y=>?_))))
   ·refine sk ?_
    obtain⟨bk,bl,Y⟩:=zbM Y
    refine Cw.join 40 87 [] (fun l w=> ∃ I D,CW.w D=w/\Le [2,4,5] h D/\l=[]/\Ow D 2 [] [a] I/\bk I=some r) ?_ ?_
    ·rintro _ _ σ ⟨I,D,rfl,bm,rfl,bn,Y⟩
     rw[bl]at Y
     exact rg (mi O (Lw.sub O (Ni O ((agm) ⟨w64 (C-1),I,D,O,(U.j bm).w,O,bn,Y⟩))))
    ·refine Cw.block (Cw.seq (Cw.draw [] [(0,0),(1,0),(2,0),(3,1),(4,0),(5,0),(6,0),(7,1),(8,0)] mixed (by kernel_rfl) fun co E=>?_))
     have i:=bj.n E
     refine Dv k O (Di O ?_)
     obtain⟨cp,W,Y⟩:=ob Y
     refine Mw.p O O (fun _=>R.ix (α:=Str) (y.ul i) W O O O) (Mw.q O O (fun _ c=>R.ld O O (zaB ((y.ul i).at_ W).1 O ((y.ul i).at_ W).str c)) (Dv x O (Di O ?_)))
     obtain⟨cq,X,Y⟩:=ob Y
     refine Mw.p O O (fun _=>R.ix (α:=Str) (z.ul i) X O O O) (Mw.q O O (fun _ c=>R.ld O O (zaB ((z.ul i).at_ X).1 O ((z.ul i).at_ X).str c)) (Mw.p O O (fun _=>R.seq O O) (Mw.nil (cn Y (fun Y=>?_) fun Y=>?_))))
     ·refine Cw.draw [] [(0,0),(1,0),(2,0),(3,1),(4,0),(5,0),(6,0),(7,0),(8,0),(9,1),(10,0),(11,0),(12,0),(13,1),(14,0),(15,0),(16,3)] mixed (by kernel_rfl) fun cs au=>?_
      have d:=(V.up E).up au
      refine Dv a O (Di O ?_)
      obtain⟨ct,K,Y⟩:=ob Y
      refine Mw.p O O (fun _=>R.ix (α:=List Int) d.rd K O O O) ?_
      obtain⟨cu,c66,r67⟩:=(d.rd.at_ K).cell O
      refine Mw.q O O (fun _ c=>R.ld O O (zaB (d.rd.at_ K).1 O c66 c)) (Di O (Dv a O (Di O (Mw.p O O (fun _=>R.add O O) ?_))))
      obtain⟨cv,Z,Y⟩:=ob Y
      refine Mw.p O O (fun _=>R.ix (α:=List Int) d.rd Z O O O) ?_
      obtain⟨cw,c71,r72⟩:=(d.rd.at_ Z).cell O
      refine Mw.q O O (fun _ c=>R.ld O O (zaB (d.rd.at_ Z).1 O c71 c)) (Di O (Mw.p O O (fun _=>R.add O O) ?_))
      obtain⟨cx,aa,Y⟩:=ob Y
      refine Mw.p O O (fun _=>R.ix (α:=Int) r72 aa O O O) (Mw.q O O (fun _ c=>R.ld O O (zaB (r72.at_ aa).1 O (r72.at_ aa).int c)) (Mw.p O O (fun _=>R.add O O) ?_))
      obtain⟨cy,bp,Y⟩:=ob Y
      refine Mw.p O O (fun _=>R.ix (α:=Int) r67 bp O O O) ?_
      obtain⟨cz,bq,br,bu,gb77⟩:=Ow.lend (α:=List Int) (β:=List Int) (j:=4) (jf:=0) d K (by rw[zlF];exact c66) O
      rw[<- bq]
      obtain⟨c0,bv,Y⟩:=ob Y
      refine Mw.lu O (T.stS (K':=[]) bu (rdI _) bv O O O) ?_
      rintro _ _ ⟨c1,rfl,av,bw⟩
      obtain⟨bz,b0,b1,b2,eq84,b3⟩:=gb77 _ _ av bw
      obtain⟨aw,eqm84,Y⟩:=ob Y
      obtain rfl:aw=b2:=Option.some.inj (eqm84.symm.trans eq84)
      rw[<- b0]
      exact Mw.nil ((ag) ⟨aw,bz,O,((((E.j au).j br).j av).j b1).w,O,b3,Y⟩)
     ·refine Cw.draw [] [(0,0),(1,0),(2,0),(3,1),(4,0),(5,0),(6,0),(7,0),(8,0),(9,1),(10,0),(11,0),(12,1),(13,0),(14,0),(15,0),(16,1),(17,0),(18,0),(19,0),(20,1),(21,0),(22,0),(23,3)] mixed (by kernel_rfl) fun c2 ax=>?_
      have b:=(V.up E).up ax
      refine Dv a O (Di O ?_)
      obtain⟨c3,L,Y⟩:=ob Y
      refine Mw.p O O (fun _=>R.ix (α:=List Int) b.rd L O O O) ?_
      obtain⟨c4,c92,r93⟩:=(b.rd.at_ L).cell O
      refine Mw.q O O (fun _ c=>R.ld O O (zaB (b.rd.at_ L).1 O c92 c)) (Di O (Dv a O (Di O (Mw.p O O (fun _=>R.add O O) ?_))))
      obtain⟨c5,ac,Y⟩:=ob Y
      refine Mw.p O O (fun _=>R.ix (α:=List Int) b.rd ac O O O) ?_
      obtain⟨c6,c97,r98⟩:=(b.rd.at_ ac).cell O
      refine Mw.q O O (fun _ c=>R.ld O O (zaB (b.rd.at_ ac).1 O c97 c)) (Di O ?_)
      obtain⟨c7,ae,Y⟩:=ob Y
      refine Mw.p O O (fun _=>R.ix (α:=Int) r98 ae O O O) (Mw.q O O (fun _ c=>R.ld O O (zaB (r98.at_ ae).1 O (r98.at_ ae).int c)) (Dv a O (Di O ?_)))
      obtain⟨c8,af,Y⟩:=ob Y
      refine Mw.p O O (fun _=>R.ix (α:=List Int) b.rd af O O O) ?_
      obtain⟨c9,c104,r105⟩:=(b.rd.at_ af).cell O
      refine Mw.q O O (fun _ c=>R.ld O O (zaB (b.rd.at_ af).1 O c104 c)) (Di O (Mw.p O O (fun _=>R.add O O) ?_))
      obtain⟨da,ah,Y⟩:=ob Y
      refine Mw.p O O (fun _=>R.ix (α:=Int) r105 ah O O O) (Mw.q O O (fun _ c=>R.ld O O (zaB (r105.at_ ah).1 O (r105.at_ ah).int c)) (Mw.p O O (fun _=>R.max O O) ?_))
      obtain⟨db,b4,Y⟩:=ob Y
      refine Mw.p O O (fun _=>R.ix (α:=Int) r93 b4 O O O) ?_
      obtain⟨dc,b5,b6,b7,gb110⟩:=Ow.lend (α:=List Int) (β:=List Int) (j:=5) (jf:=0) b L (by rw[zlF];exact c92) O
      rw[<- b5]
      obtain⟨dd,b8,Y⟩:=ob Y
      refine Mw.lu O (T.stS (K':=[]) b7 (rdI _) b8 O O O) ?_
      rintro _ _ ⟨de,rfl,ay,b9⟩
      obtain⟨cb,cc,cd,ce,eq117,cf⟩:=gb110 _ _ ay b9
      obtain⟨az,eqm117,Y⟩:=ob Y
      obtain rfl:az=ce:=Option.some.inj (eqm117.symm.trans eq117)
      rw[<- cc]
      exact Mw.nil ((ag) ⟨az,cb,O,((((E.j ax).j b6).j ay).j cd).w,O,cf,Y⟩)
   ·refine Cw.exit ?_
    rw[bi]at Y
    exact rg (mi O (Lw.sub O (Ni O ((agm) ⟨w64 (B-1),H,vI C,h,O,(aq.j U).w,O,V,Y⟩))))
  ·refine Cw.exit ?_
   rw[bg]at Y
   refine sr (mv a O (Nv a O ?_))
   cases Y
   exact Cw.ret (zkN O (Res.mk S ⟨a,O,ar.s.sub O O⟩))
theorem p232 {x0 b x1 d k0 r}(f:Rd W K [b] x0)(h:Rd W K [d] x1)(Y:Vm.ziT x0 x1=some r):Q1 232 [b,d] W [] fun W' v=> ∃ a,v=a/\Ow W' k0 [] [a] r:=
 (c232 (f.view _) (h.view _) Y).ad (fk k0) fun _ _ ⟨a,e,i⟩=>⟨a,e,i.back (ziQ _)⟩
theorem c199 {x0 x x1 i r}(y:Rd W0 [0] [x] x0)(H:Rd W0 [0] [i] x1)(Y:Vm.zft x0 x1=some r):Q0 199 [x,i] W0 fun Wf v=> ∃ X,v=X/\OwS Wf LL [] [X] r:=by
 unfold Vm.zft at Y
 refine zaz.of Tryz.func199 O O O O (sr (Nv (.slice none 0 0) O (sr (mv x O (mv i O (cr Y (fun _=>p232 (k0:=2) y H) ?_))))))
 rintro z1 I Z Y l3 ⟨_,rfl,ar⟩
 have a4:=l3.o
 refine Nv I O (sr (Nv (.slice none 0 0) O (ssr (Gi O (Ni O (Cw.block ?_))))))
 obtain⟨av,aw,Y⟩:=zbM Y
 refine Cw.loop 12 70 [6,7,8] (fun m l w=> ∃ A e d f z,CW.w z=w/\Le [3] Z z/\l=[f,vI e,vI d]/\Ow z 3 [] [f] A/\Vm.zdg x0 x1 z1 av m A e d=some r) _ ⟨([]:List Int),0,0, .slice none 0 0,Z,O,Le.refl _ _,O,owN 3 [],Y⟩ ?_
 rintro(_ |bi) _ _ σ ⟨A,e,d,f,z,rfl,l10,rfl,J,Y⟩
 ·cases Y
 unfold Vm.zdg at Y
 have B:=a4.t l10
 refine ssr (mi O (mv x O (Lw.ln x0 (y.ul B) O (Lw.lt O (nl (cn Y (fun Y=>?_) fun Y=>?_))))))
 ·refine sk (Cw.block (Cw.block ?_))
  obtain⟨ax,ay,Y⟩:=zbM Y
  refine Cw.join 18 33 [18] (fun l w=> ∃ K C,CW.w C=w/\Le [] z C/\l=[vB K]/\ax K=some r) ?_ ?_
  ·rintro _ _ σ ⟨K,C,rfl,h,rfl,Y⟩
   rw[ay]at Y
   have az:=B.n h
   refine cn Y (fun Y=>?_) fun Y=>?_
   ·refine sr (mv f O (mi O (Lw.t O (T.bs 4 [vI d] (cs:=[vI d]) O O (bsv O)) ?_)))
    rintro _ _ ⟨bj,bk,rfl,rfl,aa,a0⟩
    obtain⟨a1,a2,Y⟩:=ob Y
    refine Lw.t O (T.app1S (α:=Int) (K':=[]) ((J.up h).up aa) a0 (rdI _) O O a2) ?_
    rintro ac _ ⟨a3,rfl,a5,a6⟩
    exact Nv ac O (sr (mi O (Lw.add O (Ni O (rg (mi O (Lw.add O (Ni O ((agm) ⟨a1,w64 (e+1),w64 (d+1),ac,a3,O,(((l10.j h).j aa).j a5).w,O,a6,Y⟩)))))))))
   ·obtain⟨a7,a8,Y⟩:=zbM Y
    refine Cw.join 42 65 [42] (fun l w=> ∃ L D,CW.w D=w/\Le [] C D/\l=[vB L]/\a7 L=some r) ?_ ?_
    ·rintro _ _ σ ⟨L,D,rfl,M,rfl,Y⟩
     rw[a8]at Y
     have ae:=(J.up h).up M
     refine cn Y (fun Y=>?_) fun Y=>?_
     ·refine sr (mv f O (Lw.t O (T.bs 5 [vI (-1)] (cs:=[vI (-1)]) O O (bsv O)) ?_))
      rintro _ _ ⟨bl,bm,rfl,rfl,af,a9⟩
      obtain⟨ba,bb,Y⟩:=ob Y
      refine Lw.t O (T.app1S (α:=Int) (K':=[]) (ae.up af) a9 (rdI _) O O bb) ?_
      rintro ah _ ⟨bc,rfl,be,bg⟩
      exact Nv ah O (rg (mi O (Lw.add O (Ni O ((agm) ⟨ba,w64 (e+1),d,ah,bc,O,((((l10.j h).j M).j af).j be).w,O,bg,Y⟩)))))
     ·exact rg (mi O (Lw.add O (Ni O ((agm) ⟨A,e,w64 (d+1),f,D,O,((l10.j h).j M).w,O,ae,Y⟩))))
    ·refine Cw.draw [] [(0,0),(1,0),(2,0),(3,0),(4,0),(5,0),(6,0),(7,0),(8,0),(9,1),(10,0),(11,0),(12,1),(13,0),(14,0),(15,0),(16,1),(17,0),(18,0),(19,0),(20,1),(21,0),(22,0),(23,0)] mixed (by kernel_rfl) fun ai E=>?_
     have bh:=az.n E
     have k:=((ar.up l10).up h).up E
     refine Di O (Dv i O (Mw.p O O (fun _=>ztT (xs:=x1) (H.ul bh) O) (Mw.p O O (fun _=>R.eq O O) (Db O (bs Y (fun a Y=>?_) fun a Y=>?_)))))
     ·exact dps 17 a O (Mw.p O O (fun _=>R.pk a O (v:=vB true) O) (Hb O (Mw.nil ((ag) ⟨true,ai,O,E,O,Y⟩))))
     ·refine Wp a O (fun _=>R.mv (v:=I) O) (Wp a O (fun _=>R.mv (v:=vI e) O) (Wp a O (fun _=>R.add O O) ?_))
      obtain⟨bn,N,Y⟩:=ob Y
      refine Wp a O (fun _=>R.ix (α:=List Int) k.rd N O O O) ?_
      obtain⟨bp,c60,r61⟩:=(k.rd.at_ N).cell O
      refine Wq a O (fun _ c=>R.ld O O (zaB (k.rd.at_ N).1 O c60 c)) (Wp a O (fun _=>R.mv (v:=vI d) O) ?_)
      obtain⟨aj,P,Y⟩:=ob Y
      refine Wp a O (fun _=>R.ix (α:=Int) r61 P O O O) (Wq a O (fun _ c=>R.ld O O (zaB (r61.at_ P).1 O (r61.at_ P).int c)) (Wp a O (fun _=>R.mv (v:=I) O) (Wp a O (fun _=>R.mv (v:=vI e) O) ?_)))
      obtain⟨u64,Q,Y⟩:=ob Y
      refine Wp a O (fun _=>R.ix (α:=List Int) k.rd Q O O O) ?_
      obtain⟨bq,c67,r68⟩:=(k.rd.at_ Q).cell O
      refine Wq a O (fun _ c=>R.ld O O (zaB (k.rd.at_ Q).1 O c67 c)) (Wp a O (fun _=>R.mv (v:=vI d) O) (Wp a O (fun _=>R.add O O) ?_))
      obtain⟨ak,S,Y⟩:=ob Y
      exact Wp a O (fun _=>R.ix (α:=Int) r68 S O O O) (Wq a O (fun _ c=>R.ld O O (zaB (r68.at_ S).1 O (r68.at_ S).int c)) (Wp a O (fun _=>R.ge O O) (Mw.p O O (fun _=>R.pk a O (v:=vB (decide (ak<=(aj:Int)))) O) (Hb O (Mw.nil ((ag) ⟨decide (ak<=(aj:Int)),ai,O,E,O,Y⟩))))))
  ·refine Cw.draw [] [(0,0),(1,0),(2,0),(3,0),(4,0),(5,0),(6,0),(7,0),(8,1),(9,0),(10,0),(11,0),(12,1),(13,0),(14,0),(15,0)] mixed (by kernel_rfl) fun am U=>?_
   have F:=B.n U
   have G:=H.ul F
   refine Di O (Dv i O (Mw.p O O (fun _=>ztT (xs:=x1) G O) (Mw.p O O (fun _=>R.lt O O) (Db O (bs Y (fun b Y=>?_) fun b Y=>?_)))))
   ·refine Wp b O (fun _=>R.mv (v:=x) O) (Wp b O (fun _=>R.mv (v:=vI e) O) ?_)
    obtain⟨an,V,Y⟩:=ob Y
    refine Wp b O (fun _=>R.ix (α:=Str) (y.ul F) V O O O) (Wq b O (fun _ c=>R.ld O O (zaB ((y.ul F).at_ V).1 O ((y.ul F).at_ V).str c)) (Wp b O (fun _=>R.mv (v:=i) O) (Wp b O (fun _=>R.mv (v:=vI d) O) ?_)))
    obtain⟨ao,W,Y⟩:=ob Y
    exact Wp b O (fun _=>R.ix (α:=Str) G W O O O) (Wq b O (fun _ c=>R.ld O O (zaB (G.at_ W).1 O (G.at_ W).str c)) (Wp b O (fun _=>R.seq O O) (Mw.p O O (fun _=>R.pk b O (v:=vB (an==ao)) O) (Hb O (Mw.nil ((ag) ⟨(an==ao),am,O,U,O,Y⟩))))))
   ·exact dps 9 b O (Mw.p O O (fun _=>R.pk b O (v:=vB false) O) (Hb O (Mw.nil ((ag) ⟨false,am,O,U,O,Y⟩))))
 ·refine Cw.exit ?_
  rw[aw]at Y
  refine sr (mv f O (Nv f O ?_))
  cases Y
  exact Cw.ret (zkN O (Res.mk B ⟨f,O,J.s.sub O O⟩))
theorem p199 {x0 b x1 d k0 r}(f:Rd W K [b] x0)(h:Rd W K [d] x1)(Y:Vm.zft x0 x1=some r):Q1 199 [b,d] W [] fun W' v=> ∃ a,v=a/\Ow W' k0 [] [a] r:=
 (c199 (f.view _) (h.view _) Y).ad (fk k0) fun _ _ ⟨a,e,i⟩=>⟨a,e,i.back (ziQ _)⟩
theorem c190 {x0 b x1 e r}(d:Rd W0 [0] [b] x0)(f:Rd W0 [0] [e] x1)(Y:Vm.zlZ x0 x1=some r):Q0 190 [b,e] W0 fun Wf v=>v=vB r:=by
 unfold Vm.zlZ at Y
 refine zaz.of Tryz.func190 O O O O (sr (Nb O (ssr (mv b O (Lw.ln x0 d O (mv e O (Lw.ln x1 f O (Lw.ne O (nl (cn Y (fun Y=>?_) fun Y=>?_))))))))))
 ·exact sr (Nb O (.ret (rt Y (Le.refl _ _))))
 ·refine sk (ssr (Ni O (Cw.block ?_)))
  obtain⟨B,C,Y⟩:=zbM Y
  refine Cw.loop 11 25 [4,5] (fun m l w=> ∃ h i k,CW.w k=w/\Le [] W0 k/\l=[vB h,vI i]/\Vm.ziL x0 x1 B m h i=some r) _ ⟨false,0,W0,O,Le.refl _ _,O,Y⟩ ?_
  rintro(_ |E) _ _ σ ⟨h,i,k,rfl,A,rfl,Y⟩
  ·cases Y
  unfold Vm.ziL at Y
  have x:=A.o
  refine ssr (mi O (mv b O (Lw.ln x0 (d.ul x) O (Lw.lt O (nl (cn Y (fun Y=>?_) fun Y=>?_))))))
  ·refine sk (Cw.seq (Cw.block (Cw.seq (Cw.draw [] [(0,0),(1,0),(2,0),(3,1),(4,0),(5,0),(6,0),(7,1),(8,0)] mixed (by kernel_rfl) fun D l10=>?_))))
   have a:=x.n l10
   refine Dv b O (Di O ?_)
   obtain⟨F,y,Y⟩:=ob Y
   refine Mw.p O O (fun _=>R.ix (α:=Int) (d.ul a) y O O O) (Mw.q O O (fun _ c=>R.ld O O (zaB ((d.ul a).at_ y).1 O ((d.ul a).at_ y).int c)) (Dv e O (Di O ?_)))
   obtain⟨G,z,Y⟩:=ob Y
   refine Mw.p O O (fun _=>R.ix (α:=Int) (f.ul a) z O O O) (Mw.q O O (fun _ c=>R.ld O O (zaB ((f.ul a).at_ z).1 O ((f.ul a).at_ z).int c)) (Mw.p O O (fun _=>R.ne O O) (Mw.nil (cn Y (fun Y=>?_) fun Y=>?_))))
   ·exact sr (Nb O (.ret (rt Y a)))
   ·exact sk (rg (mi O (Lw.add O (Ni O ((agm) ⟨h,w64 (i+1),D,O,(A.j l10).w,O,Y⟩)))))
  ·refine Cw.exit ?_
   rw[C]at Y
   exact sr (Nb O (.ret (rt Y x)))
theorem p190 {x0 a x1 b r}(d:Rd W K [a] x0)(f:Rd W K [b] x1)(Y:Vm.zlZ x0 x1=some r):Q1 190 [a,b] W [] fun W' v=>v=vB r:=
 (c190 (d.view _) (f.view _) Y).ad (fk 0) fun _ _ e=>e
theorem c34 {x0 b x1 e r}(d:Rd W0 [0] [b] x0)(f:Rd W0 [0] [e] x1)(Y:Vm.zeW x0 x1=some r):Q0 34 [b,e] W0 fun Wf v=>v=vB r:=by
 unfold Vm.zeW at Y
 refine zaz.of Tryz.func34 O O O O (sr (Nb O (ssr (mv b O (Lw.ln x0 d O (mv e O (Lw.ln x1 f O (Lw.ne O (nl (cn Y (fun Y=>?_) fun Y=>?_))))))))))
 ·exact sr (Nb O (.ret (rt Y (Le.refl _ _))))
 ·refine sk (ssr (Ni O (Cw.block ?_)))
  obtain⟨B,C,Y⟩:=zbM Y
  refine Cw.loop 11 25 [4,5] (fun m l w=> ∃ h i k,CW.w k=w/\Le [] W0 k/\l=[vB h,vI i]/\Vm.zek x0 x1 B m h i=some r) _ ⟨false,0,W0,O,Le.refl _ _,O,Y⟩ ?_
  rintro(_ |E) _ _ σ ⟨h,i,k,rfl,A,rfl,Y⟩
  ·cases Y
  unfold Vm.zek at Y
  have x:=A.o
  refine ssr (mi O (mv b O (Lw.ln x0 (d.ul x) O (Lw.lt O (nl (cn Y (fun Y=>?_) fun Y=>?_))))))
  ·refine sk (Cw.seq (Cw.block (Cw.seq (Cw.draw [] [(0,0),(1,0),(2,0),(3,1),(4,0),(5,0),(6,0),(7,1),(8,0)] mixed (by kernel_rfl) fun D l10=>?_))))
   have a:=x.n l10
   refine Dv b O (Di O ?_)
   obtain⟨F,y,Y⟩:=ob Y
   refine Mw.p O O (fun _=>R.ix (α:=Str) (d.ul a) y O O O) (Mw.q O O (fun _ c=>R.ld O O (zaB ((d.ul a).at_ y).1 O ((d.ul a).at_ y).str c)) (Dv e O (Di O ?_)))
   obtain⟨G,z,Y⟩:=ob Y
   refine Mw.p O O (fun _=>R.ix (α:=Str) (f.ul a) z O O O) (Mw.q O O (fun _ c=>R.ld O O (zaB ((f.ul a).at_ z).1 O ((f.ul a).at_ z).str c)) (Mw.p O O (fun _=>R.sne O O) (Mw.nil (cn Y (fun Y=>?_) fun Y=>?_))))
   ·exact sr (Nb O (.ret (rt Y a)))
   ·exact sk (rg (mi O (Lw.add O (Ni O ((agm) ⟨h,w64 (i+1),D,O,(A.j l10).w,O,Y⟩)))))
  ·refine Cw.exit ?_
   rw[C]at Y
   exact sr (Nb O (.ret (rt Y x)))
theorem p34 {x0 a x1 b r}(d:Rd W K [a] x0)(f:Rd W K [b] x1)(Y:Vm.zeW x0 x1=some r):Q1 34 [a,b] W [] fun W' v=>v=vB r:=
 (c34 (d.view _) (f.view _) Y).ad (fk 0) fun _ _ e=>e
theorem c212 {x0 d x1 e r}(y:Rd W0 [0] [vS x0.Path,d] x0)(z:Rd W0 [0] [vS x1.Path,e] x1)(Y:Vm.zl0 x0 x1=some r):Q0 212 [.agg [vS x0.Path,d].toArray, .agg [vS x1.Path,e].toArray] W0 fun Wf v=>v=vB r:=by
 unfold Vm.zl0 at Y
 obtain⟨F,f,A⟩:=File.split y
 simp only[List.cons.injEq,and_true,true_and]at f
 obtain rfl:=f
 obtain⟨G,h,B⟩:=File.split z
 simp only[List.cons.injEq,and_true,true_and]at h
 obtain rfl:=h
 refine zaz.of Tryz.func212 O O O O (sr (bo 2 O fun H I C i=>?_))
 have D:=C.o
 refine bo 3 O fun J K b k=>?_
 have a:=D.n b
 refine Nb O (ssr (fl (i.up b) O (fl k O (Lw.sne O (nl (cn Y (fun Y=>?_) fun Y=>?_))))))
 ·exact sr (Nb O (.ret (rt Y a)))
 ·refine sk (ssr (fl (i.up b) O (fl k O (ca Y (fun _=>p34 (A.ul a) (B.ul a)) fun L M Y E=>?_))))
  have x:=a.n E
  refine Lw.r O (R.not O) (nl (cn Y (fun Y=>?_) fun Y=>?_))
  ·exact sr (Nb O (.ret (rt Y x)))
  ·exact sk (sr (Nb O (.ret (rt Y x))))
theorem p212 {x0 a x1 b r}(d:Rd W K [vS x0.Path,a] x0)(f:Rd W K [vS x1.Path,b] x1)(Y:Vm.zl0 x0 x1=some r):Q1 212 [.agg [vS x0.Path,a].toArray, .agg [vS x1.Path,b].toArray] W [] fun W' v=>v=vB r:=
 (c212 (d.view _) (f.view _) Y).ad (fk 0) fun _ _ e=>e
theorem c191 {x0 b x1 e r}(d:Rd W0 [0] [b] x0)(f:Rd W0 [0] [e] x1)(Y:Vm.zk8 x0 x1=some r):Q0 191 [b,e] W0 fun Wf v=>v=vB r:=by
 unfold Vm.zk8 at Y
 refine zaz.of Tryz.func191 O O O O (sr (Nb O (ssr (mv b O (Lw.ln x0 d O (mv e O (Lw.ln x1 f O (Lw.ne O (nl (cn Y (fun Y=>?_) fun Y=>?_))))))))))
 ·exact sr (Nb O (.ret (rt Y (Le.refl _ _))))
 ·refine sk (ssr (Ni O (Cw.block ?_)))
  obtain⟨E,F,Y⟩:=zbM Y
  refine Cw.loop 11 26 [4,5] (fun m l w=> ∃ h i k,CW.w k=w/\Le [] W0 k/\l=[vB h,vI i]/\Vm.zhZ x0 x1 E m h i=some r) _ ⟨false,0,W0,O,Le.refl _ _,O,Y⟩ ?_
  rintro(_ |J) _ _ σ ⟨h,i,k,rfl,A,rfl,Y⟩
  ·cases Y
  unfold Vm.zhZ at Y
  have x:=A.o
  refine ssr (mi O (mv b O (Lw.ln x0 (d.ul x) O (Lw.lt O (nl (cn Y (fun Y=>?_) fun Y=>?_))))))
  ·refine sk (Cw.seq (Cw.block (Cw.seq (Cw.draw [] [(0,0),(1,0),(2,0),(3,1),(4,0),(5,0),(6,0),(7,1),(8,3),(9,0)] mixed (by kernel_rfl) fun L l10=>?_))))
   have a:=x.n l10
   refine Dv b O (Di O ?_)
   obtain⟨B,y,Y⟩:=ob Y
   refine Mw.p O O (fun _=>R.ix (α:=File) (d.ul a) y O O O) ?_
   obtain⟨x15,c16,_,r17⟩:=((d.ul a).at_ y).cells
   obtain⟨M,rfl,r19⟩:=File.split r17
   refine Mw.q O O (fun _ c=>R.lda (zkX ((d.ul a).at_ y).1 O c16 c) O O) (Dv e O (Di O ?_))
   obtain⟨C,z,Y⟩:=ob Y
   refine Mw.p O O (fun _=>R.ix (α:=File) (f.ul a) z O O O) ?_
   obtain⟨x23,c24,_,r25⟩:=((f.ul a).at_ z).cells
   obtain⟨N,rfl,r27⟩:=File.split r25
   refine Mw.q O O (fun _ c=>R.lda (zkX ((f.ul a).at_ z).1 O c24 c) O O) ?_
   obtain⟨P,G,Y⟩:=ob Y
   refine Mw.l O O (T.call O (p212 (File.rd (K:=[0]) B.Path B.Text r19) (File.rd (K:=[0]) C.Path C.Text r27) G)) ?_
   rintro _ _ ⟨H,rfl,D,rfl⟩
   have I:=a.n D
   refine Mw.p O O (fun _=>R.not O) (Mw.nil (cn Y (fun Y=>?_) fun Y=>?_))
   ·exact sr (Nb O (.ret (rt Y I)))
   ·exact sk (rg (mi O (Lw.add O (Ni O ((agm) ⟨h,w64 (i+1),H,O,((A.j l10).j D).w,O,Y⟩)))))
  ·refine Cw.exit ?_
   rw[F]at Y
   exact sr (Nb O (.ret (rt Y x)))
theorem p191 {x0 a x1 b r}(d:Rd W K [a] x0)(f:Rd W K [b] x1)(Y:Vm.zk8 x0 x1=some r):Q1 191 [a,b] W [] fun W' v=>v=vB r:=
 (c191 (d.view _) (f.view _) Y).ad (fk 0) fun _ _ e=>e
theorem c148 {x0 f h x1 i k r}(C:Rd W0 [0] [f,vS x0.Who,h] x0)(D:Rd W0 [0] [i,vS x1.Who,k] x1)(Y:Vm.zky x0 x1=some r):Q0 148 [.agg [f,vS x0.Who,h].toArray, .agg [i,vS x1.Who,k].toArray] W0 fun Wf v=>v=vB r:=by
 unfold Vm.zky at Y
 obtain⟨L,M,x,E,F⟩:=Commit.split C
 simp only[List.cons.injEq,and_true,true_and]at x
 obtain⟨rfl,rfl⟩:=x
 obtain⟨N,P,y,G,H⟩:=Commit.split D
 simp only[List.cons.injEq,and_true,true_and]at y
 obtain⟨rfl,rfl⟩:=y
 refine zaz.of Tryz.func148 O O O O (sr (bo 2 O fun Q S I z=>?_))
 have J:=I.o
 refine bo 3 O fun T U b d=>?_
 have e:=J.n b
 refine Nb O (ssr (fl (z.up b) O (fl d O (ca Y (fun _=>p190 (E.ul e) (G.ul e)) fun V W Y l10=>?_))))
 have a:=e.n l10
 have A:=(z.up b).up l10
 refine Lw.r O (R.not O) (nl (cn Y (fun Y=>?_) fun Y=>?_))
 ·exact sr (Nb O (.ret (rt Y a)))
 ·refine sk (ssr (fl A O (fl (d.up l10) O (Lw.sne O (nl (cn Y (fun Y=>?_) fun Y=>?_))))))
  ·exact sr (Nb O (.ret (rt Y a)))
  ·refine sk (ssr (fl A O (fl (d.up l10) O (ca Y (fun _=>p191 (F.ul a) (H.ul a)) fun X Z Y K=>?_))))
   have B:=a.n K
   refine Lw.r O (R.not O) (nl (cn Y (fun Y=>?_) fun Y=>?_))
   ·exact sr (Nb O (.ret (rt Y B)))
   ·exact sk (sr (Nb O (.ret (rt Y B))))
theorem p148 {x0 a b x1 d f r}(h:Rd W K [a,vS x0.Who,b] x0)(i:Rd W K [d,vS x1.Who,f] x1)(Y:Vm.zky x0 x1=some r):Q1 148 [.agg [a,vS x0.Who,b].toArray, .agg [d,vS x1.Who,f].toArray] W [] fun W' v=>v=vB r:=
 (c148 (h.view _) (i.view _) Y).ad (fk 0) fun _ _ e=>e
end Go.Sx
