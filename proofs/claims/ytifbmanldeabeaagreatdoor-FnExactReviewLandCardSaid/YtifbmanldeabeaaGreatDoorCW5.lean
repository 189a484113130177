/- Walks: each function answers as its model, printed by a program of ours. Conditions: the arguments read as they are given. -/
import Derived.Test.YtifbmanldeabeaaGreatDoorCTs
import Derived.Test.YtifbmanldeabeaaGreatDoorCM0
import Derived.Test.YtifbmanldeabeaaGreatDoorCW4
import Derived.Test.YtifbmanldeabeaaGreatDoorCE
namespace Go.Sx
open Go Go.Proofs Go.Vm Rp
set_option linter.unusedVariables false
set_option linter.unusedSimpArgs false
variable {W W0:CW}{K:List Nat}
theorem c95 {x0 E F x1 k r}(h0:Rd W0 [0] [E,F] x0)(f:Rd W0 [0] [k] x1)(Y:Vm.zf4 x0 x1=some r):Q0 95 [.agg [E,F].toArray,k] W0 fun Wf v=>v=vB r:=by
 unfold Vm.zf4 at Y
 obtain⟨a3,a4,S,af,ah⟩:=Repo.split h0
 simp only[List.cons.injEq,and_true,true_and]at S
 obtain⟨rfl,rfl⟩:=S
 refine zak.of Tryz.func95 O O O O (sr (bo 2 O fun g1 U l1 b1=>?_))
 have y:=l1.o
 refine Nb O (ssr (mv k O (Lw.ln x1 (f.ul y) O (Lw.gt O (nl (cn Y (fun Y=>?_) fun Y=>?_))))))
 ·exact sr (Nb O (.ret (rt Y y)))
 ·refine sk (ssr (mv k O (Lw.ln x1 (f.ul y) O (mi O (nl (Cw.block ?_))))))
  obtain⟨ak,am,Y⟩:=zaT Y
  refine Cw.loop 12 43 [4,5,6,12] (fun m l w=> ∃ z e V W G,CW.w G=w/\Le [3] U G/\l=[vB z,V,W,vI e]/\Vm.zcq x0 x1 ak m z e=some r) _ ⟨false,0,undef,undef,U,O,Le.refl _ _,O,Y⟩ ?_
  rintro(_ |a6) _ _ σ ⟨z,e,V,W,G,rfl,H,rfl,Y⟩
  ·cases Y
  unfold Vm.zcq at Y
  have A:=y.t H
  refine sr (Lw.lt O (nl (Cw.seq (cn Y (fun Y=>?_) fun Y=>?_))))
  ·refine sk (Cw.seq (Cw.block (sr (mi O ?_))))
   obtain⟨x,X,Y⟩:=ob Y
   refine Lw.r O (R.ix (α:=Head) (f.ul A) X O O O) ?_
   obtain⟨x18,c19,_,r20⟩:=((f.ul A).at_ X).cells
   obtain rfl:=Head.split r20
   refine Lw.r O (R.lda c19 O O) (al 3 [vS ([]:Str),vI 0] fun an a7 I ao=>?_)
   have ap:=A.n I
   refine Gi O (sta ao (zaa O (zaa O zaC)) fun aq J ar=>?_)
   have Z:=ap.t J
   refine nl ?_
   obtain⟨au,av,Y⟩:=zaT Y
   refine Cw.join 17 42 [42] (fun l w=> ∃ L B,CW.w B=w/\Le [] aq B/\l=[vB L]/\au L=some r) ?_ ?_
   ·rintro _ _ σ ⟨L,B,rfl,aa,rfl,Y⟩
    rw[av]at Y
    have aw:=Z.n aa
    refine cn Y (fun Y=>?_) fun Y=>?_
    ·exact sr (Nb O (.ret (rt Y aw)))
    ·exact sk (rg (Lw.add O (mi O (nl ((agm) ⟨z,w64 (e+1),vI e,ptr (bx an),B,O,(((H.j I).j J).j aa).w,O,Y⟩)))))
   ·refine Cw.draw [] [(0,0),(1,1),(2,2),(3,0),(4,0),(5,1),(6,0),(7,1),(8,2),(9,0),(10,0),(11,0),(12,0),(13,0),(14,0),(15,0),(16,0),(17,0),(18,0),(19,0),(20,1),(21,0),(22,1),(23,0),(24,0),(25,0)] mixed (by kernel_rfl) fun a8 h=>?_
    have C:=Z.n h
    have M:=ar.up h
    refine Dfl M O O O ?_
    obtain⟨a9,ax,Y⟩:=ob Y
    refine Mw.t O O (T.call O (p92 ax)) ?_
    rintro _ _ ⟨ay,rfl,i,rfl⟩
    have ac:=C.n i
    refine m0 i fun az=>Mw.p O O (fun _=>R.not O) (Db O (bs Y (fun d Y=>?_) fun d Y=>?_))
    ·exact dps 5 d O (Mw.p O O (fun _=>R.pk d O (v:=vB true) O) (Db O (dps 3 O O (dpu 9 O (dps 1 O O (Mw.p O O (fun _=>R.pk O O (v:=vB true) O) (Mw.nil ((ag) ⟨true,ay,O,(h.j i).w,O,Y⟩))))))))
    ·refine Wq d O (fun _ c=>R.lda (cs:=[E,F]) (((((b1.up H).up I).up J).up h).clcs O c) O O) (Wp d O (fun _=>R.fa O) (Wq d O (fun _ c=>R.ld (v:=vI x.At) O O (M.clc O O c)) ?_))
     obtain⟨a0,a1,Y⟩:=ob Y
     refine Wt d O (T.call O (p97 (Repo.rd (K:=[0]) x0.Commits x0.Heads (af.ul ac) (ah.ul ac)) a1)) ?_
     rintro _ _ ⟨N,rfl,D,rfl⟩
     refine mc az D fun ba=>Wp d O (fun _=>R.not O) (Mw.p O O (fun _=>R.pk d O (v:=vB (!a0)) O) (Db O (bs Y (fun b Y=>?_) fun b Y=>?_)))
     ·exact dps 3 b O (dpu 9 O (dps 1 b O (Mw.p O O (fun _=>R.pk b O (v:=vB true) O) (Mw.nil ((ag) ⟨true,N,O,((h.j i).j D).w,O,Y⟩)))))
     ·refine Wp b O (fun _=>R.mv (v:=vI e) O) (Wp b O (fun _=>R.gt O O) (Wp b O (fun _=>R.mv (v:=vB (decide (0< (e:Int)))) O) (bs Y (fun a Y=>?_) fun a Y=>?_)))
      ·refine Wp a O (fun _=>R.mv (v:=k) O) (Wp a O (fun _=>R.mv (v:=vI e) O) (Wp a O (fun _=>R.sub O O) ?_))
       obtain⟨P,Q,Y⟩:=ob Y
       exact Wp a O (fun _=>R.ix (α:=Head) (f.ul C) Q O O O) (Wp a O (fun _=>R.fa O) (Wq a O (fun _ c=>R.ld O O (zao (Head.at0 ((f.ul C).at_ Q)).1 O (Head.at0 ((f.ul C).at_ Q)).str c)) (Wp a O (fun _=>R.fa O) (Wq a O (fun _ c=>R.ld (v:=vS x.Name) O O (M.clc O O c)) (Wp a O (fun _=>R.sge O O) (Wp b O (fun _=>R.pk a O (v:=vB (!Op.bytesLess P.Name x.Name)) O) (Mw.p O O (fun _=>R.pk b O (v:=vB (!Op.bytesLess P.Name x.Name)) O) (Mw.nil ((ag) ⟨(!Op.bytesLess P.Name x.Name),N,O,((h.j i).j D).w,O,Y⟩)))))))))
      ·exact dps 9 a O (Wp b O (fun _=>R.pk a O (v:=vB false) O) (Mw.p O O (fun _=>R.pk b O (v:=vB false) O) (Mw.nil ((ag) ⟨false,N,O,((h.j i).j D).w,O,Y⟩))))
  ·refine Cw.exit ?_
   rw[am]at Y
   exact sr (Nb O (.ret (rt Y A)))
theorem p95 {x0 a b x1 d r}(f:Rd W K [a,b] x0)(h:Rd W K [d] x1)(Y:Vm.zf4 x0 x1=some r):Q1 95 [.agg [a,b].toArray,d] W [] fun W' v=>v=vB r:=
 (c95 (f.view _) (h.view _) Y).ad (fk 0) fun _ _ e=>e
theorem c42 {x0 ae af r}(h0:Rd W0 [0] [ae,af] x0)(ah:Gl 0 W0 [0])(Y:Vm.zfC x0=some r):Q0 42 [.agg [ae,af].toArray] W0 fun Wf v=>v=vB r:=by
 unfold Vm.zfC at Y
 obtain⟨b9,cb,ai,C,aj⟩:=Repo.split h0
 simp only[List.cons.injEq,and_true,true_and]at ai
 obtain⟨rfl,rfl⟩:=ai
 refine zak.of Tryz.func42 O O O O (sr (bo 2 O fun g1 W1 l1 G=>?_))
 have H:=l1.o
 refine Nb O (ssr (fl G O (Lw.ln x0.Commits (C.ul H) O (Lw.gt O (nl (cn Y (fun Y=>?_) fun Y=>?_))))))
 ·exact sr (Nb O (.ret (rt Y H)))
 ·refine sk (ssr (fl G O (Lw.ln x0.Commits (C.ul H) O (mi O (nl (Cw.block ?_))))))
  obtain⟨bb,bc,Y⟩:=zaT Y
  refine Cw.loop 14 65 [2,3,4,6,14] (fun m l w=> ∃ I B j6 j7 Q S,CW.w S=w/\Le [3] W1 S/\l=[vB I,j6,j7,Q,vI B]/\Vm.zc5 x0 bb m I B=some r) _ ⟨false,0,undef,undef,undef,W1,O,Le.refl _ _,O,Y⟩ ?_
  rintro(_ |cd) _ _ σ ⟨I,B,j6,j7,Q,S,rfl,l10,rfl,Y⟩
  ·cases Y
  unfold Vm.zc5 at Y
  have d:=H.t l10
  refine sr (Lw.lt O (nl (Cw.seq (cn Y (fun Y=>?_) fun Y=>?_))))
  ·refine sk (Cw.seq (Cw.block (sr (mi O ?_))))
   obtain⟨A,ao,Y⟩:=ob Y
   refine Lw.r O (R.ix (α:=Commit) (C.ul d) ao O O O) ?_
   obtain⟨x19,c20,_,r21⟩:=((C.ul d).at_ ao).cells
   obtain⟨U,ap,rfl,r23,r25⟩:=Commit.split r21
   refine Lw.r O (R.lda c20 O O) (al 3 [.slice none 0 0,vS ([]:Str), .slice none 0 0] fun be ce aq bg=>?_)
   have e:=aq.o
   refine Gi O (sta bg (zaa r23.oc (zaa O (zaa r25.oc zaC))) fun bh ar au=>?_)
   have f:=ar.s
   refine nl (Cw.seq ?_)
   obtain⟨bi,bj,Y⟩:=zaT Y
   refine Cw.join 19 51 [51] (fun l w=> ∃ V D,CW.w D=w/\Le [] bh D/\l=[vB V]/\bi V=some r) ?_ ?_
   ·rintro _ _ σ ⟨V,D,rfl,W,rfl,Y⟩
    rw[bj]at Y
    have J:=W.o
    refine cn Y (fun Y=>?_) fun Y=>?_
    ·exact sr (Nb O (.ret (rt Y (((d.trans e).trans f).trans J))))
    ·refine sk (sr (fl (au.up W) O (Lw.ln A.Parents (r23.ul ((e.trans f).trans J)) O (mi O (nl (Cw.block ?_))))))
     obtain⟨bk,bl,Y⟩:=zaT Y
     refine Cw.loop 55 64 [2,6,55] (fun m l w=> ∃ E L X M,CW.w M=w/\Le [] D M/\l=[vB E,X,vI L]/\Vm.zb1 B A bk m E L=some r) _ ⟨I,0,Q,D,O,Le.refl _ _,O,Y⟩ ?_
     rintro(_ |cf) _ _ σ ⟨E,L,X,M,rfl,Z,rfl,Y⟩
     ·cases Y
     unfold Vm.zb1 at Y
     have av:=Z.o
     refine sr (Lw.lt O (nl (Cw.seq (cn Y (fun Y=>?_) fun Y=>?_))))
     ·refine sk (Cw.seq (Cw.block (sr ?_)))
      obtain⟨bm,aw,Y⟩:=ob Y
      have ax:=r23.ul (((e.trans f).trans J).trans av)
      refine Lw.r O (R.ix (α:=Int) ax aw O O O) (Lw.r O (R.ld O O (ax.at_ aw).int) (Ni O (sr (mi O (mi O (Lw.sub O (ca Y (fun _=>p94) fun cg bn Y ay=>?_)))))))
      have bp:=((((d.trans e).trans f).trans J).trans av).n ay
      refine Lw.r O (R.not O) (nl (cn Y (fun Y=>?_) fun Y=>?_))
      ·exact sr (Nb O (.ret (rt Y bp)))
      ·exact sk (rg (Lw.add O (mi O (nl ((agm) ⟨E,w64 (L+1),vI bm,bn,O,(Z.j ay).w,O,Y⟩)))))
     ·refine Cw.exit ?_
      rw[bl]at Y
      exact rg (Lw.add O (mi O (nl ((agm) ⟨E,w64 (B+1),vI B,ptr (bx be),X,M,O,((((l10.j aq).j ar).j W).j Z).w,O,Y⟩))))
   ·refine Cw.draw [] [(0,0),(1,1),(2,0),(3,0),(4,0),(5,0),(6,1),(7,0),(8,0),(9,0),(10,0),(11,1),(12,0),(13,1),(14,0),(15,1),(16,0),(17,1),(18,0),(19,0),(20,0),(21,0),(22,0),(23,1),(24,2),(25,0),(26,0),(27,0),(28,0),(29,1),(30,2),(31,0),(32,0)] mixed (by kernel_rfl) fun az h=>?_
    have F:=h.o
    have i:=au.up h
    have k:=r23.ul ((e.trans f).trans F)
    refine Dfl i O O O (Mw.p O O (fun _=>zte (xs:=A.Parents) k O) (Mw.p O O (fun _=>R.gt O O) (Db O (bs Y (fun a Y=>?_) fun a Y=>?_))))
    ·exact dps 5 a O (dpu 9 O (dps 1 a O (Mw.p O O (fun _=>R.pk a O (v:=vB true) O) (Db O (dps 4 O O (Mw.p O O (fun _=>R.pk O O (v:=vB true) O) (Db O (dps 4 O O (Mw.p O O (fun _=>R.pk O O (v:=vB true) O) (Mw.nil ((ag) ⟨true,az,O,h,O,Y⟩)))))))))))
    ·refine Wp a O (fun _=>R.fa O) (Wq a O (fun _ c=>R.ld (v:=U) O O (i.clc O O c)) (Wp a O (fun _=>zte (xs:=A.Parents) k O) (Wp a O (fun _=>R.eq O O) (Wp a O (fun _=>R.mv (v:=vB ((A.Parents.length:Int)==2)) O) (bs Y (fun b Y=>?_) fun b Y=>?_)))))
     ·refine Wp b O (fun _=>R.fa O) (Wq b O (fun _ c=>R.ld (v:=U) O O (i.clc O O c)) ?_)
      obtain⟨a0,aa,Y⟩:=ob Y
      refine Wp b O (fun _=>R.ix (α:=Int) k aa O O O) (Wq b O (fun _ c=>R.ld O O (zao (k.at_ aa).1 O (k.at_ aa).int c)) (Wp b O (fun _=>R.fa O) (Wq b O (fun _ c=>R.ld (v:=U) O O (i.clc O O c)) ?_)))
      obtain⟨a1,ac,Y⟩:=ob Y
      refine Wp b O (fun _=>R.ix (α:=Int) k ac O O O) (Wq b O (fun _ c=>R.ld O O (zao (k.at_ ac).1 O (k.at_ ac).int c)) (Wp b O (fun _=>R.eq O O) (Wp a O (fun _=>R.pk b O (v:=vB ((a0:Int)==(a1:Int))) O) (Mw.p O O (fun _=>R.pk a O (v:=vB ((a0:Int)==(a1:Int))) O) (Db O (bs Y (fun x Y=>?_) fun x Y=>?_))))))
      ·exact dps 4 x O (Mw.p O O (fun _=>R.pk x O (v:=vB true) O) (Db O (dps 4 O O (Mw.p O O (fun _=>R.pk O O (v:=vB true) O) (Mw.nil ((ag) ⟨true,az,O,h,O,Y⟩))))))
      ·refine Wp x O (fun _=>R.fa O) (Wq x O (fun _ c=>R.ld (v:=vS A.Who) O O (i.clc O O c)) ?_)
       obtain⟨bq,br,Y⟩:=ob Y
       refine Wt x O (T.call O (p92 br)) ?_
       rintro _ _ ⟨bu,rfl,N,rfl⟩
       have a3:=N.o
       refine m0 N fun bv=>Wp x O (fun _=>R.not O) (Mw.p O O (fun _=>R.pk x O (v:=vB (!bq)) O) (Db O (bs Y (fun y Y=>?_) fun y Y=>?_)))
       ·exact dps 4 y O (Mw.p O O (fun _=>R.pk y O (v:=vB true) O) (Mw.nil ((ag) ⟨true,bu,O,(h.j N).w,O,Y⟩)))
       ·refine Wp y O (fun _=>R.fa O) (Wq y O (fun _ c=>R.ld (v:=ap) O O (i.clc O O c)) ?_)
        obtain⟨a4,bw,Y⟩:=ob Y
        refine Wt y O (T.call O (p93 (r25.ul (((e.trans f).trans F).trans a3)) (ah.ul ((((d.trans e).trans f).trans F).trans a3)) bw)) ?_
        rintro _ _ ⟨bz,rfl,a5,rfl⟩
        exact mc bv a5 fun ch=>Wp y O (fun _=>R.not O) (Mw.p O O (fun _=>R.pk y O (v:=vB (!a4)) O) (Mw.nil ((ag) ⟨(!a4),bz,O,((h.j N).j a5).w,O,Y⟩)))
     ·refine dps 9 b O (Wp a O (fun _=>R.pk b O (v:=vB false) O) (Mw.p O O (fun _=>R.pk a O (v:=vB false) O) (Db O (Wp O O (fun _=>R.fa O) (Wq O O (fun _ c=>R.ld (v:=vS A.Who) O O (i.clc O O c)) ?_)))))
      obtain⟨b0,b2,Y⟩:=ob Y
      refine Wt O O (T.call O (p92 b2)) ?_
      rintro _ _ ⟨b3,rfl,P,rfl⟩
      have a6:=P.o
      refine m0 P fun b4=>Wp O O (fun _=>R.not O) (Mw.p O O (fun _=>R.pk O O (v:=vB (!b0)) O) (Db O (bs Y (fun z Y=>?_) fun z Y=>?_)))
      ·exact dps 4 z O (Mw.p O O (fun _=>R.pk z O (v:=vB true) O) (Mw.nil ((ag) ⟨true,b3,O,(h.j P).w,O,Y⟩)))
      ·refine Wp z O (fun _=>R.fa O) (Wq z O (fun _ c=>R.ld (v:=ap) O O (i.clc O O c)) ?_)
       obtain⟨a7,b5,Y⟩:=ob Y
       refine Wt z O (T.call O (p93 (r25.ul (((e.trans f).trans F).trans a6)) (ah.ul ((((d.trans e).trans f).trans F).trans a6)) b5)) ?_
       rintro _ _ ⟨b6,rfl,a8,rfl⟩
       exact mc b4 a8 fun ci=>Wp z O (fun _=>R.not O) (Mw.p O O (fun _=>R.pk z O (v:=vB (!a7)) O) (Mw.nil ((ag) ⟨(!a7),b6,O,((h.j P).j a8).w,O,Y⟩)))
  ·refine Cw.exit ?_
   rw[bc]at Y
   refine sr (la (G.up l10) (fl (G.up l10) O (ca Y (fun _=>p95 (Repo.rd (K:=[0]) x0.Commits x0.Heads (C.ul d) (aj.ul d)) (aj.ul d)) fun cj ck Y b7=>?_)))
   have b8:=d.n b7
   exact Nb O (.ret (rt Y b8))
theorem p42 {x0 a b r}(d:Rd W K [a,b] x0)(f:Gl 0 W K)(Y:Vm.zfC x0=some r):Q1 42 [.agg [a,b].toArray] W [] fun W' v=>v=vB r:=
 (c42 (d.view _) (f.view _) Y).ad (fk 0) fun _ _ e=>e
theorem c66 {x0 i r}(f:Rd W0 [0] [i] x0)(U:Gl 0 W0 [0])(Y:Vm.zes x0=some r):Q0 66 [i] W0 fun Wf v=>v=vB r:=by
 unfold Vm.zes at Y
 refine zak.of Tryz.func66 O O O O (sr (Nb O (ssr (mv i O (Lw.ln x0 f O (Lw.gt O (nl (cn Y (fun Y=>?_) fun Y=>?_))))))))
 ·exact sr (Nb O (.ret (rt Y (Le.refl _ _))))
 ·refine sk (ssr (mv i O (Lw.ln x0 f O (mi O (nl (Cw.block ?_))))))
  obtain⟨V,W,Y⟩:=zaT Y
  refine Cw.loop 10 40 [2,3,4,10] (fun m l w=> ∃ x d J K D,CW.w D=w/\Le [2] W0 D/\l=[vB x,J,K,vI d]/\Vm.zb4 x0 V m x d=some r) _ ⟨false,0,undef,undef,W0,O,Le.refl _ _,O,Y⟩ ?_
  rintro(_ |m8) _ _ σ ⟨x,d,J,K,D,rfl,L,rfl,Y⟩
  ·cases Y
  unfold Vm.zb4 at Y
  have y:=L.s
  refine sr (Lw.lt O (nl (Cw.seq (cn Y (fun Y=>?_) fun Y=>?_))))
  ·refine sk (Cw.seq (Cw.block (sr (mi O ?_))))
   obtain⟨k,M,Y⟩:=ob Y
   refine Lw.r O (R.ix (α:=Owner) (f.ul y) M O O O) ?_
   obtain⟨x14,c15,_,r16⟩:=((f.ul y).at_ M).cells
   obtain rfl:=Owner.split r16
   refine Lw.r O (R.lda c15 O O) (al 2 [vS ([]:Str),vS ([]:Str)] fun X ap N Z=>?_)
   have aa:=y.n N
   refine Gi O (sta Z (zaa O (zaa O zaC)) fun ac P ae=>?_)
   have Q:=aa.t P
   refine nl ?_
   obtain⟨af,ah,Y⟩:=zaT Y
   refine Cw.join 15 39 [39] (fun l w=> ∃ E z,CW.w z=w/\Le [] ac z/\l=[vB E]/\af E=some r) ?_ ?_
   ·rintro _ _ σ ⟨E,z,rfl,S,rfl,Y⟩
    rw[ah]at Y
    have ai:=Q.n S
    refine cn Y (fun Y=>?_) fun Y=>?_
    ·exact sr (Nb O (.ret (rt Y ai)))
    ·exact sk (rg (Lw.add O (mi O (nl ((agm) ⟨x,w64 (d+1),vI d,ptr (bx X),z,O,(((L.j N).j P).j S).w,O,Y⟩)))))
   ·refine Cw.draw [] [(0,0),(1,1),(2,2),(3,0),(4,0),(5,0),(6,1),(7,2),(8,0),(9,0),(10,0),(11,0),(12,0),(13,0),(14,0),(15,0),(16,0),(17,0),(18,0),(19,1),(20,0),(21,1),(22,0),(23,0),(24,0)] mixed (by kernel_rfl) fun aq h=>?_
    have A:=Q.n h
    have F:=ae.up h
    refine Dfl F O O O (Dc Y (Le.refl _ _) (fun _=>p121 (U.ul A)) O ?_)
    rintro ar _ aj Y B rfl ak
    refine Mw.p O O (fun _=>R.not O) (Db O (bs Y (fun e Y=>?_) fun e Y=>?_))
    ·exact dps 4 e O (Mw.p O O (fun _=>R.pk e O (v:=vB true) O) (Db O (dps 3 O O (dpu 9 O (dps 1 O O (Mw.p O O (fun _=>R.pk O O (v:=vB true) O) (Mw.nil ((ag) ⟨true,aj,O,(h.j B).w,O,Y⟩))))))))
    ·refine Wp e O (fun _=>R.fa O) (Wq e O (fun _ c=>R.ld (v:=vS k.Who) O O (F.clc O O c)) ?_)
     obtain⟨am,an,Y⟩:=ob Y
     refine Wt e O (T.call O (p92 an)) ?_
     rintro _ _ ⟨G,rfl,C,rfl⟩
     refine mc ak C fun au=>Wp e O (fun _=>R.not O) (Mw.p O O (fun _=>R.pk e O (v:=vB (!am)) O) (Db O (bs Y (fun b Y=>?_) fun b Y=>?_)))
     ·exact dps 3 b O (dpu 9 O (dps 1 b O (Mw.p O O (fun _=>R.pk b O (v:=vB true) O) (Mw.nil ((ag) ⟨true,G,O,((h.j B).j C).w,O,Y⟩)))))
     ·refine Wp b O (fun _=>R.mv (v:=vI d) O) (Wp b O (fun _=>R.gt O O) (Wp b O (fun _=>R.mv (v:=vB (decide (0< (d:Int)))) O) (bs Y (fun a Y=>?_) fun a Y=>?_)))
      ·refine Wp a O (fun _=>R.mv (v:=i) O) (Wp a O (fun _=>R.mv (v:=vI d) O) (Wp a O (fun _=>R.sub O O) ?_))
       obtain⟨H,I,Y⟩:=ob Y
       exact Wp a O (fun _=>R.ix (α:=Owner) (f.ul A) I O O O) (Wp a O (fun _=>R.fa O) (Wq a O (fun _ c=>R.ld O O (zao (Owner.at0 ((f.ul A).at_ I)).1 O (Owner.at0 ((f.ul A).at_ I)).str c)) (Wp a O (fun _=>R.fa O) (Wq a O (fun _ c=>R.ld (v:=vS k.Path) O O (F.clc O O c)) (Wp a O (fun _=>R.sge O O) (Wp b O (fun _=>R.pk a O (v:=vB (!Op.bytesLess H.Path k.Path)) O) (Mw.p O O (fun _=>R.pk b O (v:=vB (!Op.bytesLess H.Path k.Path)) O) (Mw.nil ((ag) ⟨(!Op.bytesLess H.Path k.Path),G,O,((h.j B).j C).w,O,Y⟩)))))))))
      ·exact dps 9 a O (Wp b O (fun _=>R.pk a O (v:=vB false) O) (Mw.p O O (fun _=>R.pk b O (v:=vB false) O) (Mw.nil ((ag) ⟨false,G,O,((h.j B).j C).w,O,Y⟩))))
  ·refine Cw.exit ?_
   rw[W]at Y
   exact sr (Nb O (.ret (rt Y y)))
theorem p66 {x0 a r}(b:Rd W K [a] x0)(d:Gl 0 W K)(Y:Vm.zes x0=some r):Q1 66 [a] W [] fun W' v=>v=vB r:=
 (c66 (b.view _) (d.view _) Y).ad (fk 0) fun _ _ e=>e
theorem c122 {x0 h r}(b:Rd W0 [0] [h] x0)(Y:Vm.zf5 x0=some r):Q0 122 [h] W0 fun Wf v=>v=vB r:=by
 unfold Vm.zf5 at Y
 refine zak.of Tryz.func122 O O O O (sr (Nb O (ssr (mv h O (Lw.ln x0 b O (mi O (nl (Cw.block ?_))))))))
 obtain⟨J,K,Y⟩:=zaT Y
 refine Cw.loop 7 28 [2,3,4,7] (fun m l w=> ∃ i d B C k,CW.w k=w/\Le [] W0 k/\l=[vB i,B,C,vI d]/\Vm.zcr x0 J m i d=some r) _ ⟨false,0,undef,undef,W0,O,Le.refl _ _,O,Y⟩ ?_
 rintro(_ |Q) _ _ σ ⟨i,d,B,C,k,rfl,D,rfl,Y⟩
 ·cases Y
 unfold Vm.zcr at Y
 have e:=D.o
 refine sr (Lw.lt O (nl (Cw.seq (cn Y (fun Y=>?_) fun Y=>?_))))
 ·refine sk (Cw.seq (Cw.block (sr (mi O ?_))))
  obtain⟨E,F,Y⟩:=ob Y
  refine Lw.r O (R.ix (α:=Str) (b.ul e) F O O O) (Lw.r O (R.ld O O ((b.ul e).at_ F).str) (Gi O (Ns O ?_)))
  obtain⟨L,M,Y⟩:=zaT Y
  refine Cw.join 12 27 [27] (fun l w=> ∃ z x,CW.w x=w/\Le [] k x/\l=[vB z]/\L z=some r) ?_ ?_
  ·rintro _ _ σ ⟨z,x,rfl,G,rfl,Y⟩
   rw[M]at Y
   have N:=e.n G
   refine cn Y (fun Y=>?_) fun Y=>?_
   ·exact sr (Nb O (.ret (rt Y N)))
   ·exact sk (rg (Lw.add O (mi O (nl ((agm) ⟨i,w64 (d+1),vI d,vS E,x,O,(D.j G).w,O,Y⟩)))))
  ·refine rg (ms O (ca Y (fun _=>p92) fun S A Y y=>?_))
   have H:=e.n y
   refine Lw.r O (R.not O) (mb O (bs Y (fun a Y=>?_) fun a Y=>?_))
   ·exact psk 3 a O (puk 7 O (psk 1 a O (Pb a O (nl ((ag) ⟨true,A,O,y,O,Y⟩)))))
   ·refine wak 3 a (mi O (Lw.gt O (mb O (bs Y (fun f Y=>?_) fun f Y=>?_))))
    ·refine wak 7 f (mv h O (mi O (Lw.sub O ?_)))
     obtain⟨P,I,Y⟩:=ob Y
     exact Lw.r O (R.ix (α:=Str) (b.ul H) I O O O) (Lw.r O (R.ld O O ((b.ul H).at_ I).str) (ms O (Lw.r O (R.sge O O) (wak 1 a (Pb f O (Pb a O (nl ((ag) ⟨(!Op.bytesLess P E),A,O,y,O,Y⟩))))))))
    ·exact psk 7 f O (wak 1 a (Pb f O (Pb a O (nl ((ag) ⟨false,A,O,y,O,Y⟩)))))
 ·refine Cw.exit ?_
  rw[K]at Y
  exact sr (Nb O (.ret (rt Y e)))
theorem p122 {x0 a r}(b:Rd W K [a] x0)(Y:Vm.zf5 x0=some r):Q1 122 [a] W [] fun W' v=>v=vB r:=
 (c122 (b.view _) Y).ad (fk 0) fun _ _ e=>e
theorem c67 {x0 B r}(H:Rd W0 [0] [vS x0.Branch,vS x0.Into,vS x0.By,B] x0)(Y:Vm.zeX x0=some r):Q0 67 [.agg [vS x0.Branch,vS x0.Into,vS x0.By,B].toArray] W0 fun Wf v=>v=vB r:=by
 unfold Vm.zeX at Y
 obtain⟨W,C,D⟩:=Review.split H
 simp only[List.cons.injEq,and_true,true_and]at C
 obtain rfl:=C
 refine zak.of Tryz.func67 O O O O (sr (bo 2 O fun X I J x=>?_))
 have E:=J.o
 refine Nb O ?_
 obtain⟨K,L,Y⟩:=zaT Y
 refine Cw.join 3 33 [2] (fun l w=> ∃ y z,CW.w z=w/\Le [] I z/\l=[vB y]/\K y=some r) ?_ ?_
 ·rintro _ _ σ ⟨y,z,rfl,M,rfl,Y⟩
  rw[L]at Y
  have N:=E.n M
  exact .ret (rt Y N)
 ·refine rg (fl x O (ca Y (fun _=>p92) fun Z P Y l10=>?_))
  have Q:=E.n l10
  refine mb O (bs Y (fun d Y=>?_) fun d Y=>?_)
  ·refine wak 3 d (fl (x.up l10) O (ca Y (fun _=>p92) fun aa R Y a=>?_))
   have S:=Q.n a
   have F:=(x.up l10).up a
   refine Pb d O (mb O (bs Y (fun e Y=>?_) fun e Y=>?_))
   ·refine wak 3 e (fl F O (ca Y (fun _=>p92) fun ac A Y b=>?_))
    have G:=S.n b
    have k:=F.up b
    refine Pb e O (mb O (bs Y (fun f Y=>?_) fun f Y=>?_))
    ·refine wak 5 f (fl k O (fl k O (Lw.sne O (Pb f O (mb O (bs Y (fun h Y=>?_) fun h Y=>?_))))))
     ·refine wak 4 h (fl k O (Lw.ln x0.Yes (D.ul G) O (Lw.le O (Pb h O (mb O (bs Y (fun i Y=>?_) fun i Y=>?_))))))
      ·exact wak 3 i (fl k O (ca Y (fun _=>p122 (D.ul G)) fun T U Y V=>Pb i O (Nb O ((ag) ⟨T,U,O,(((l10.j a).j b).j V).w,O,Y⟩))))
      ·exact psk 3 i O (Pb i O (Nb O ((ag) ⟨false,A,O,((l10.j a).j b).w,O,Y⟩)))
     ·exact psk 4 h O (Pb h O (mb O (psk 3 O O (Pb O O (Nb O ((ag) ⟨false,A,O,((l10.j a).j b).w,O,Y⟩))))))
    ·exact psk 5 f O (Pb f O (mb O (psk 4 O O (Pb O O (mb O (psk 3 O O (Pb O O (Nb O ((ag) ⟨false,A,O,((l10.j a).j b).w,O,Y⟩)))))))))
   ·exact psk 3 e O (Pb e O (mb O (psk 5 O O (Pb O O (mb O (psk 4 O O (Pb O O (mb O (psk 3 O O (Pb O O (Nb O ((ag) ⟨false,R,O,(l10.j a).w,O,Y⟩))))))))))))
  ·exact psk 3 d O (Pb d O (mb O (psk 3 O O (Pb O O (mb O (psk 5 O O (Pb O O (mb O (psk 4 O O (Pb O O (mb O (psk 3 O O (Pb O O (Nb O ((ag) ⟨false,P,O,l10,O,Y⟩)))))))))))))))
theorem p67 {x0 a r}(b:Rd W K [vS x0.Branch,vS x0.Into,vS x0.By,a] x0)(Y:Vm.zeX x0=some r):Q1 67 [.agg [vS x0.Branch,vS x0.Into,vS x0.By,a].toArray] W [] fun W' v=>v=vB r:=
 (c67 (b.view _) Y).ad (fk 0) fun _ _ e=>e
theorem c45 {x0 h i x1 r}(F:Rd W0 [0] [h,i] x0)(Y:Vm.zdr x0 x1=some r):Q0 45 [.agg [h,i].toArray,vS x1] W0 fun Wf v=>v=vI r:=by
 unfold Vm.zdr at Y
 obtain⟨Q,S,k,T,e⟩:=Repo.split F
 simp only[List.cons.injEq,and_true,true_and]at k
 obtain⟨rfl,rfl⟩:=k
 refine zak.of Tryz.func45 O O O O (sr (bo 2 O fun U x G H=>?_))
 have y:=G.o
 refine Ni O (ssr (fl H O (Lw.ln x0.Heads (e.ul y) O (mi O (nl (Cw.block ?_))))))
 obtain⟨I,J,Y⟩:=zaT Y
 refine Cw.loop 10 20 [4,6,10] (fun m l w=> ∃ a b z f,CW.w f=w/\Le [3] x f/\l=[vI a,z,vI b]/\Vm.zcs x0 x1 I m a b=some r) _ ⟨0,0,undef,x,O,Le.refl _ _,O,Y⟩ ?_
 rintro(_ |V) _ _ σ ⟨a,b,z,f,rfl,A,rfl,Y⟩
 ·cases Y
 unfold Vm.zcs at Y
 have d:=y.t A
 refine sr (Lw.lt O (nl (Cw.seq (cn Y (fun Y=>?_) fun Y=>?_))))
 ·refine sk (Cw.seq (Cw.block (sr ?_)))
  obtain⟨W,B,Y⟩:=ob Y
  refine Lw.r O (R.ix (α:=Head) (e.ul d) B O O O) ?_
  obtain⟨x16,c17,_,r18⟩:=((e.ul d).at_ B).cells
  obtain rfl:=Head.split r18
  refine Lw.r O (R.lda c17 O O) (al 3 [vS ([]:Str),vI 0] fun K X C L=>?_)
  have M:=d.n C
  refine sta L (zaa O (zaa O zaC)) fun N D E=>?_
  have P:=M.t D
  refine nl (sr (fl E O (ms O (Lw.seq O (nl (cn Y (fun Y=>?_) fun Y=>?_))))))
  ·exact sr (fl E O (Ni O (.ret (rt Y P))))
  ·exact sk (rg (Lw.add O (mi O (nl ((agm) ⟨a,w64 (b+1),ptr (bx K),N,O,((A.j C).j D).w,O,Y⟩)))))
 ·refine Cw.exit ?_
  rw[J]at Y
  exact sr (Ni O (.ret (rt Y d)))
theorem p45 {x0 a b x1 r}(d:Rd W K [a,b] x0)(Y:Vm.zdr x0 x1=some r):Q1 45 [.agg [a,b].toArray,vS x1] W [] fun W' v=>v=vI r:=
 (c45 (d.view _) Y).ad (fk 0) fun _ _ e=>e
theorem c98 {x0 H I x1 r}(h0:Rd W0 [0] [H,I] x0)(Y:Vm.zaQ x0 x1=some r):Q0 98 [.agg [H,I].toArray,vI x1] W0 fun Wf v=> ∃ J,v=J/\OwS Wf LL [] [J] r:=by
 unfold Vm.zaQ at Y
 obtain⟨a3,a4,K,A,a5⟩:=Repo.split h0
 simp only[List.cons.injEq,and_true,true_and]at K
 obtain⟨rfl,rfl⟩:=K
 refine zak.of Tryz.func98 O O O O (sr (bo 2 O fun g1 W1 l1 L=>?_))
 have M:=l1.o
 refine Nv (.slice none 0 0) O (sr (fl L O (Lw.ln x0.Commits (A.ul M) O ?_)))
 obtain⟨q4,e5,Y⟩:=ob Y
 refine Lw.t O (T.mk (α:=Bool) 3 [] (n:=(x0.Commits.length:Int)) O O e5) ?_
 rintro a _ ⟨W6,rfl,N,P⟩
 have a7:=M.n N
 refine Nv a O (sr (mv a O (mi O ?_)))
 obtain⟨u9,ai,Y⟩:=ob Y
 refine Lw.r O (R.ix (α:=Bool) P.rd ai O O O) ?_
 obtain⟨aj,ak,Y⟩:=ob Y
 refine Lw.u (T.stS (K':=[]) P (rdB _) ak O O O) ?_
 rintro _ _ ⟨Q,rfl,S,am⟩
 have an:=a7.t S
 refine nl (ssr (mi O (Ni O (Cw.block ?_))))
 obtain⟨ao,ap,Y⟩:=zaT Y
 refine Cw.loop 17 39 [6,8] (fun m l w=> ∃ i d k b,CW.w b=w/\Le [3] Q b/\l=[vI i,k]/\Ow b 3 [] [a] d/\Vm.zaL x0 ao m i d=some r) _ ⟨x1,aj,undef,Q,O,Le.refl _ _,O,am,Y⟩ ?_
 rintro(_ |bc) _ _ σ ⟨i,d,k,b,rfl,B,rfl,e,Y⟩
 ·cases Y
 unfold Vm.zaL at Y
 have C:=an.t B
 refine ssr (mi O (Lw.ge O (nl (cn Y (fun Y=>?_) fun Y=>?_))))
 ·refine sk ?_
  obtain⟨U,aq,Y⟩:=zaT Y
  refine Cw.join 21 39 [8] (fun l w=> ∃ x D f,CW.w f=w/\Le [3] b f/\l=[D]/\Ow f 3 [] [a] x/\U x=some r) ?_ ?_
  ·rintro _ _ σ ⟨x,D,f,rfl,ar,rfl,au,Y⟩
   rw[aq]at Y
   exact rg (mi O (Lw.sub O (Ni O ((agm) ⟨w64 (i-1),x,D,f,O,(B.j ar).w,O,au,Y⟩))))
  ·refine Cw.block (sr (mv a O (mi O ?_)))
   obtain⟨be,V,Y⟩:=ob Y
   refine Lw.r O (R.ix (α:=Bool) e.rd V O O O) (Lw.r O (R.ld O O (e.rd.at_ V).bool) (nl (cn Y (fun Y=>?_) fun Y=>?_)))
   ·refine sr (fl (((L.up N).up S).up B) O (mi O ?_))
    obtain⟨W,X,Y⟩:=ob Y
    refine Lw.r O (R.ix (α:=Commit) (A.ul C) X O O O) (Lw.fa O ?_)
    obtain⟨bg,c40,r41⟩:=(Commit.at0 ((A.ul C).at_ X)).cell O
    refine Lw.r O (R.ld O O c40) (Lw.ln W.Parents r41 O (mi O (nl (Cw.block (Cw.loop 32 39 [8,32] (fun m l w=> ∃ y z E h,CW.w h=w/\Le [3] b h/\l=[E,vI y]/\Ow h 3 [] [a] z/\Vm.za1 U W m y z=some r) _ ⟨0,d,k,b,O,Le.refl _ _,O,e,Y⟩ ?_)))))
    rintro(_ |bh) _ _ σ ⟨y,z,E,h,rfl,F,rfl,G,Y⟩
    ·cases Y
    unfold Vm.za1 at Y
    have Z:=F.s
    refine sr (Lw.lt O (nl (Cw.seq (cn Y (fun Y=>?_) fun Y=>?_))))
    ·refine sk (Cw.seq (Cw.block (sr ?_)))
     obtain⟨av,aa,Y⟩:=ob Y
     refine Lw.r O (R.ix (α:=Int) (r41.ul Z) aa O O O) (Lw.r O (R.ld O O ((r41.ul Z).at_ aa).int) (Ni O (rg (mv a O (mi O ?_)))))
     obtain⟨bi,aw,Y⟩:=ob Y
     refine Lw.r O (R.ix (α:=Bool) G.rd aw O O O) ?_
     obtain⟨ax,ay,Y⟩:=ob Y
     refine Lw.u (T.stS (K':=[]) G (rdB _) ay O O O) ?_
     rintro _ _ ⟨az,rfl,a0,a1⟩
     exact nl (rg (Lw.add O (mi O (nl ((agm) ⟨w64 (y+1),ax,vI av,az,O,(F.j a0).w,O,a1,Y⟩)))))
    ·exact Cw.exit ((ag) ⟨z,E,h,O,F,O,G,Y⟩)
   ·exact sk ((ag) ⟨d,k,b,O,Le.refl _ _,O,e,Y⟩)
 ·refine Cw.exit ?_
  rw[ap]at Y
  refine sr (mv a O (Nv a O ?_))
  cases Y
  exact Cw.ret (zhX O (Res.mk C ⟨a,O,e.s.sub O O⟩))
theorem p98 {x0 b d x1 k0 r}(f:Rd W K [b,d] x0)(Y:Vm.zaQ x0 x1=some r):Q1 98 [.agg [b,d].toArray,vI x1] W [] fun W' v=> ∃ a,v=a/\Ow W' k0 [] [a] r:=
 (c98 (f.view _) Y).ad (fk k0) fun _ _ ⟨a,e,h⟩=>⟨a,e,h.back (zgC _)⟩
theorem c162 {x0 k r}(x:Rd W0 [0] [k] x0)(Y:Vm.zbO x0=some r):Q0 162 [k] W0 fun Wf v=> ∃ C,v=C/\OwS Wf LL [] [C] r:=by
 unfold Vm.zbO at Y
 refine zak.of Tryz.func162 O O O O (sr (Nv (.slice none 0 0) O (sr (Nv (.slice none 0 0) O (ssr (mv k O (Lw.ln x0 x O (mi O (nl (Cw.block ?_))))))))))
 obtain⟨K,L,Y⟩:=zaT Y
 refine Cw.loop 8 18 [3,4,5,8] (fun m l w=> ∃ f a b D E d,CW.w d=w/\Le [2] W0 d/\l=[b,D,E,vI a]/\Ow d 2 [] [b] f/\Vm.zc6 x0 K m f a=some r) _ ⟨([]:List Int),0, .slice none 0 0,undef,undef,W0,O,Le.refl _ _,O,owN 2 [],Y⟩ ?_
 rintro(_ |m9) _ _ σ ⟨f,a,b,D,E,d,rfl,F,rfl,y,Y⟩
 ·cases Y
 unfold Vm.zc6 at Y
 have z:=F.s
 refine sr (Lw.lt O (nl (Cw.seq (cn Y (fun Y=>?_) fun Y=>?_))))
 ·refine sk ?_
  obtain⟨M,N,Y⟩:=zaT Y
  refine Cw.join 10 17 [3,4,5] (fun l w=> ∃ h i A B e,CW.w e=w/\Le [2] d e/\l=[i,A,B]/\Ow e 2 [] [i] h/\M h=some r) ?_ ?_
  ·rintro _ _ σ ⟨h,i,A,B,e,rfl,P,rfl,Q,Y⟩
   rw[N]at Y
   exact rg (Lw.add O (mi O (nl ((agm) ⟨h,w64 (a+1),i,A,B,e,O,(F.j P).w,O,Q,Y⟩))))
  ·refine Cw.block (sr (mi O ?_))
   obtain⟨G,H,Y⟩:=ob Y
   refine Lw.r O (R.ix (α:=Bool) (x.ul z) H O O O) (Lw.r O (R.ld O O ((x.ul z).at_ H).bool) (Gi O (Nb O (sr (mb O (nl (cn Y (fun Y=>?_) fun Y=>?_)))))))
   ·refine rg (mv b O (mi O (Lw.t O (T.bs 3 [vI a] (cs:=[vI a]) O O (bsv O)) ?_)))
    rintro _ _ ⟨ac,ae,rfl,rfl,I,S⟩
    obtain⟨U,V,Y⟩:=ob Y
    refine Lw.t O (T.app1S (α:=Int) (K':=[]) (y.up I) S (rdI _) O O V) ?_
    rintro J _ ⟨W,rfl,X,Z⟩
    exact Nv J O ((ag) ⟨U,J,vI a,vB G,W,O,(I.j X).w,O,Z,Y⟩)
   ·exact sk ((ag) ⟨f,b,vI a,vB G,d,O,Le.refl _ _,O,y,Y⟩)
 ·refine Cw.exit ?_
  rw[L]at Y
  refine sr (mv b O (Nv b O ?_))
  cases Y
  exact Cw.ret (zhX O (Res.mk z ⟨b,O,y.s.sub O O⟩))
theorem p162 {x0 b k0 r}(d:Rd W K [b] x0)(Y:Vm.zbO x0=some r):Q1 162 [b] W [] fun W' v=> ∃ a,v=a/\Ow W' k0 [] [a] r:=
 (c162 (d.view _) Y).ad (fk k0) fun _ _ ⟨a,e,f⟩=>⟨a,e,f.back (zgC _)⟩
theorem c126 {x0 z A x1 x2 r}(h0:Rd W0 [0] [z,A] x0)(Y:Vm.zdS x0 x1 x2=some r):Q0 126 [.agg [z,A].toArray,vI x1,vI x2] W0 fun Wf v=> ∃ u0,v=u0/\OwS Wf LL [] [u0] r:=by
 unfold Vm.zdS at Y
 obtain⟨c4,c5,aj,B,M⟩:=Repo.split h0
 simp only[List.cons.injEq,and_true,true_and]at aj
 obtain⟨rfl,rfl⟩:=aj
 refine zak.of Tryz.func126 O O O O (sr (bo 2 O fun g1 W1 l1 b1=>?_))
 have a2:=l1.o
 refine Nv (.slice none 0 0) O (Cw.seq (Cw.draw [] [(0,1),(1,0),(3,1),(4,0),(2,2),(5,3),(6,0),(7,0)] mixed (by kernel_rfl) fun W3 l3=>?_))
 have N:=a2.n l3
 have P:=b1.up l3
 refine Mw.q O O (fun _ c=>R.lda (cs:=[z,A]) (P.clcs O c) O O) (Di O (Mw.q O O (fun _ c=>R.lda (cs:=[z,A]) (P.clcs O c) O O) (Di O ?_)))
 obtain⟨z8,e9,Y⟩:=ob Y
 refine Mw.t O O (T.call O (p98 (k0:=3) (Repo.rd (K:=[0]) x0.Commits x0.Heads (B.ul N) (M.ul N)) e9)) ?_
 rintro am _ ⟨c9,rfl,l10,⟨_,rfl,bm⟩⟩
 have Q:=N.n l10
 refine m0 l10 fun da=>?_
 obtain⟨bn,bp,Y⟩:=ob Y
 refine Mw.l O O (T.call O (p98 (k0:=4) (Repo.rd (K:=[0]) x0.Commits x0.Heads (B.ul Q) (M.ul Q)) bp)) ?_
 rintro an _ ⟨db,rfl,S,⟨_,rfl,bq⟩⟩
 have ao:=Q.n S
 have ap:=(P.up l10).up S
 refine Hv am O (Hv an O (Mw.nil (sr (fl ap O (Lw.ln x0.Commits (B.ul ao) O ?_)))))
 obtain⟨U,br,Y⟩:=ob Y
 refine Lw.t O (T.mk (α:=Bool) 5 [] (n:=(x0.Commits.length:Int)) O O br) ?_
 rintro d _ ⟨aq,rfl,C,ar⟩
 have bu:=ao.n C
 refine Nv d O (ssr (mv d O (Lw.ln U ar.rd O (mi O (nl (Cw.block ?_))))))
 obtain⟨bv,bw,Y⟩:=zaT Y
 refine Cw.loop 28 44 [10,28] (fun m l w=> ∃ a V au D,CW.w D=w/\Le [5] aq D/\l=[au,vI a]/\Ow D 5 [] [d] V/\Vm.zbl z8 bn U bv m a V=some r) _ ⟨0,U,undef,aq,O,Le.refl _ _,O,ar,Y⟩ ?_
 rintro(_ |dc) _ _ σ ⟨a,V,au,D,rfl,e,rfl,f,Y⟩
 ·cases Y
 unfold Vm.zbl at Y
 have bz:=bu.t e
 have av:=((bm.up S).up C).up e
 have aw:=(bq.up C).up e
 refine sr (Lw.lt O (nl (Cw.seq (cn Y (fun Y=>?_) fun Y=>?_))))
 ·refine sk (Cw.seq (Cw.block (sr (mi O (Ni O (rg (mv d O (mi O (mv am O (mi O ?_))))))))))
  obtain⟨dd,ax,Y⟩:=ob Y
  refine Lw.r O (R.ix (α:=Bool) av.rd ax O O O) (Lw.r O (R.ld O O (av.rd.at_ ax).bool) (mb O (bs Y (fun i Y=>?_) fun i Y=>?_)))
  ·refine wak 4 i (mv an O (mi O ?_))
   obtain⟨de,ay,Y⟩:=ob Y
   refine Lw.r O (R.ix (α:=Bool) aw.rd ay O O O) (Lw.r O (R.ld O O (aw.rd.at_ ay).bool) (Pb i O ?_))
   obtain⟨df,b0,Y⟩:=ob Y
   refine Lw.r O (R.ix (α:=Bool) f.rd b0 O O O) ?_
   obtain⟨b2,b3,Y⟩:=ob Y
   refine Lw.u (T.stS (K':=[]) f (rdB _) b3 O O O) ?_
   rintro _ _ ⟨b4,rfl,b6,b7⟩
   exact nl (rg (Lw.add O (mi O (nl ((agm) ⟨w64 (a+1),b2,vI a,b4,O,(e.j b6).w,O,b7,Y⟩)))))
  ·refine psk 4 i O (Pb i O ?_)
   obtain⟨dg,b8,Y⟩:=ob Y
   refine Lw.r O (R.ix (α:=Bool) f.rd b8 O O O) ?_
   obtain⟨b9,cb,Y⟩:=ob Y
   refine Lw.u (T.stS (K':=[]) f (rdB _) cb O O O) ?_
   rintro _ _ ⟨cc,rfl,cd,ce⟩
   exact nl (rg (Lw.add O (mi O (nl ((agm) ⟨w64 (a+1),b9,vI a,cc,O,(e.j cd).w,O,ce,Y⟩)))))
 ·refine Cw.exit ?_
  rw[bw]at Y
  refine sr (mv d O (cr Y (fun _=>p161 (K:=[5]) (k0:=6) f.rd) ?_))
  rintro cf h dh Y W ⟨_,rfl,cg⟩
  have ch:=bz.n W
  refine Nv h O (ssr (mv d O (cr Y (fun _=>p162 (K:=[5]) (k0:=7) (f.up W).rd) ?_)))
  rintro az di a0 Y X ⟨_,rfl,Z⟩
  have ci:=ch.n X
  refine Lw.ln az Z.rd O (mi O (nl (Cw.block ?_)))
  obtain⟨cj,ck,Y⟩:=zaT Y
  refine Cw.loop 50 70 [13,15,50] (fun m l w=> ∃ E F a1 aa G,CW.w G=w/\Le [6] a0 G/\l=[a1,aa,vI E]/\Ow G 6 [] [h] F/\Vm.zaR x0 az cj m E F=some r) _ ⟨0,cf,undef,undef,a0,O,Le.refl _ _,O,(cg.up X),Y⟩ ?_
  rintro(_ |dj) _ _ σ ⟨E,F,a1,aa,G,rfl,k,rfl,a3,Y⟩
  ·cases Y
  unfold Vm.zaR at Y
  have ac:=ci.t k
  refine sr (Lw.lt O (nl (Cw.seq (cn Y (fun Y=>?_) fun Y=>?_))))
  ·refine sk (Cw.seq (Cw.block (sr ?_)))
   obtain⟨a5,a6,Y⟩:=ob Y
   refine Lw.r O (R.ix (α:=Int) (Z.up k).rd a6 O O O) (Lw.r O (R.ld O O ((Z.up k).rd.at_ a6).int) (Ni O (sr (la (((((ap.up C).up e).up W).up X).up k) (mi O (cr Y (fun _=>p98 (k0:=8) (Repo.rd (K:=[0]) x0.Commits x0.Heads (B.ul ac) (M.ul ac))) ?_))))))
   rintro dk dl dm Y a7 ⟨_,rfl,cl⟩
   refine cr Y (fun _=>p162 (K:=[8]) (k0:=9) cl.rd) ?_
   rintro a8 dn a9 Y ba ⟨_,rfl,ae⟩
   refine Lw.ln a8 ae.rd O (mi O (nl (Cw.block ?_)))
   obtain⟨cm,co,Y⟩:=zaT Y
   refine Cw.loop 59 69 [15,59] (fun m l w=> ∃ H x af b,CW.w b=w/\Le [6] a9 b/\l=[af,vI H]/\Ow b 6 [] [h] x/\Vm.zbz a5 a8 cm m H x=some r) _ ⟨0,F,aa,a9,O,Le.refl _ _,O,((a3.up a7).up ba),Y⟩ ?_
   rintro(_ |dp) _ _ σ ⟨H,x,af,b,rfl,I,rfl,J,Y⟩
   ·cases Y
   unfold Vm.zbz at Y
   refine sr (Lw.lt O (nl (Cw.seq (cn Y (fun Y=>?_) fun Y=>?_))))
   ·refine sk ?_
    obtain⟨cp,cq,Y⟩:=zaT Y
    refine Cw.join 61 68 [15] (fun l w=> ∃ L ah y,CW.w y=w/\Le [6] b y/\l=[ah]/\Ow y 6 [] [h] L/\cp L=some r) ?_ ?_
    ·rintro _ _ σ ⟨L,ah,y,rfl,ct,rfl,cu,Y⟩
     rw[cq]at Y
     exact rg (Lw.add O (mi O (nl ((agm) ⟨w64 (H+1),L,ah,y,O,(I.j ct).w,O,cu,Y⟩))))
    ·refine Cw.block (sr ?_)
     obtain⟨bb,bc,Y⟩:=ob Y
     refine Lw.r O (R.ix (α:=Int) (ae.up I).rd bc O O O) (Lw.r O (R.ld O O ((ae.up I).rd.at_ bc).int) (Ni O (sr (mi O (mi O (Lw.ne O (nl (cn Y (fun Y=>?_) fun Y=>?_))))))))
     ·refine rg (mv h O (mi O ?_))
      obtain⟨dq,cv,Y⟩:=ob Y
      refine Lw.r O (R.ix (α:=Bool) J.rd cv O O O) ?_
      obtain⟨cw,cx,Y⟩:=ob Y
      refine Lw.u (T.stS (K':=[]) J (rdB _) cx O O O) ?_
      rintro _ _ ⟨cy,rfl,cz,c0⟩
      exact nl ((ag) ⟨cw,vI bb,cy,O,cz,O,c0,Y⟩)
     ·exact sk ((ag) ⟨x,vI bb,b,O,Le.refl _ _,O,J,Y⟩)
   ·refine Cw.exit ?_
    rw[co]at Y
    exact rg (Lw.add O (mi O (nl ((agm) ⟨w64 (E+1),x,vI a5,af,b,O,(((k.j a7).j ba).j I).w,O,J,Y⟩))))
  ·refine Cw.exit ?_
   rw[ck]at Y
   refine sr (mv h O (cr Y (fun _=>p162 (K:=[6]) (k0:=10) a3.rd) ?_))
   rintro dr be ds Y c1 ⟨_,rfl,c2⟩
   have c3:=ac.n c1
   refine Nv be O ?_
   cases Y
   exact Cw.ret (zhX O (Res.mk c3 ⟨be,O,c2.s.sub O O⟩))
theorem p126 {x0 b d x1 x2 k0 r}(f:Rd W K [b,d] x0)(Y:Vm.zdS x0 x1 x2=some r):Q1 126 [.agg [b,d].toArray,vI x1,vI x2] W [] fun W' v=> ∃ a,v=a/\Ow W' k0 [] [a] r:=
 (c126 (f.view _) Y).ad (fk k0) fun _ _ ⟨a,e,h⟩=>⟨a,e,h.back (zgC _)⟩
theorem c71 {x0 b d x1 r}(x:Rd W0 [0] [b,d] x0)(Y:Vm.zbr x0 x1=some r):Q0 71 [.agg [b,d].toArray,vI x1] W0 fun Wf v=> ∃ e,v=e/\Rd Wf [0] [e] r:=by
 unfold Vm.zbr at Y
 obtain⟨A,B,f,h,C⟩:=Repo.split x
 simp only[List.cons.injEq,and_true,true_and]at f
 obtain⟨rfl,rfl⟩:=f
 refine zak.of Tryz.func71 O O O O (sr (bo 2 O fun D E y z=>?_))
 have a:=y.o
 refine Nv (.slice none 0 0) O (ssr (mi O (Lw.lt O (nl (cn Y (fun Y=>?_) fun Y=>?_)))))
 ·refine sr (Nv (.slice none 0 0) O ?_)
  cases Y
  exact Cw.ret (zhX O (Res.mk a ⟨.slice none 0 0,O,(rdN (K:=[0]))⟩))
 ·refine sk (sr (fl z O (mi O ?_)))
  obtain⟨F,i,Y⟩:=ob Y
  refine Lw.r O (R.ix (α:=Commit) (h.ul a) i O O O) (Lw.fa O ?_)
  obtain⟨k,c8,r9⟩:=(Commit.at2 ((h.ul a).at_ i)).cell O
  refine Lw.r O (R.ld O O c8) (Nv k O ?_)
  cases Y
  exact Cw.ret (zhX O (Res.mk a ⟨k,O,r9⟩))
theorem p71 {x0 b d x1 r}(f:Rd W K [b,d] x0)(Y:Vm.zbr x0 x1=some r):Q1 71 [.agg [b,d].toArray,vI x1] W [] fun W' v=> ∃ a,v=a/\Rd W' (0::K) [a] r:=
 (c71 (f.view _) Y).ad (fk 0) fun _ _ ⟨a,e,h⟩=>⟨a,e,h.back O⟩
theorem c70 {x0 d e x1 x2 r}(H:Rd W0 [0] [d,e] x0)(Y:Vm.zbA x0 x1 x2=some r):Q0 70 [.agg [d,e].toArray,vI x1,vI x2] W0 fun Wf v=> ∃ x,v=x/\Rd Wf [0] [x] r:=by
 unfold Vm.zbA at Y
 obtain⟨S,U,y,z,A⟩:=Repo.split H
 simp only[List.cons.injEq,and_true,true_and]at y
 obtain⟨rfl,rfl⟩:=y
 refine zak.of Tryz.func70 O O O O (sr (bo 2 O fun V W I B=>?_))
 have f:=I.o
 refine Nv (.slice none 0 0) O (sr (la B (mi O (mi O (cr Y (fun _=>p126 (k0:=3) (Repo.rd (K:=[0]) x0.Commits x0.Heads (z.ul f) (A.ul f))) ?_)))))
 rintro C a X Y D ⟨_,rfl,E⟩
 have F:=f.n D
 refine Nv a O (ssr (mv a O (Lw.ln C E.rd O (Lw.eq O (nl (cn Y (fun Y=>?_) fun Y=>?_))))))
 ·refine sr (Nv (.slice none 0 0) O ?_)
  cases Y
  exact Cw.ret (zhX O (Res.mk F ⟨.slice none 0 0,O,(rdN (K:=[0]))⟩))
 ·refine sk (Cw.seq (Cw.draw [] [(0,1),(1,0),(2,0),(3,0),(4,0),(5,0),(6,1),(7,3),(8,0)] mixed (by kernel_rfl) fun Z h=>?_))
  have i:=F.n h
  have b:=E.up h
  refine Mw.q O O (fun _ c=>R.lda (cs:=[d,e]) (((B.up D).up h).clcs O c) O O) (Dv a O (Dv a O (Mw.p O O (fun _=>zte (xs:=C) b.rd O) (Mw.p O O (fun _=>R.sub O O) ?_))))
  obtain⟨aa,k,Y⟩:=ob Y
  refine Mw.p O O (fun _=>R.ix (α:=Int) b.rd k O O O) (Mw.q O O (fun _ c=>R.ld O O (zao (b.rd.at_ k).1 O (b.rd.at_ k).int c)) ?_)
  obtain⟨ac,J,Y⟩:=ob Y
  refine Mw.l O O (T.call O (p71 (Repo.rd (K:=[0]) x0.Commits x0.Heads (z.ul i) (A.ul i)) J)) ?_
  rintro G _ ⟨ae,rfl,L,⟨_,rfl,N⟩⟩
  have P:=N.sub (M:=[0]) O
  have Q:=i.n L
  refine Hv G O (Mw.nil ?_)
  cases Y
  exact Cw.ret (zhX O (Res.mk Q ⟨G,O,P⟩))
theorem p70 {x0 b d x1 x2 r}(f:Rd W K [b,d] x0)(Y:Vm.zbA x0 x1 x2=some r):Q1 70 [.agg [b,d].toArray,vI x1,vI x2] W [] fun W' v=> ∃ a,v=a/\Rd W' (0::K) [a] r:=
 (c70 (f.view _) Y).ad (fk 0) fun _ _ ⟨a,e,h⟩=>⟨a,e,h.back O⟩
theorem c125 {x0 a r}(f:Rd W0 [0] [a] x0)(Y:Vm.zbZ x0=some r):Q0 125 [a] W0 fun Wf v=> ∃ b,v=b/\OwS Wf LL [] [b] r:=by
 unfold Vm.zbZ at Y
 refine zak.of Tryz.func125 O O O O (sr (Nv (.slice none 0 0) O (sr (Lw.t O (T.lit0 (α:=Str) 2 []) ?_))))
 rintro A _ ⟨B,rfl,h,i⟩
 have d:=h.o
 refine mv a O ?_
 obtain⟨C,k,Y⟩:=ob Y
 refine Lw.t O (T.appP (α:=Str) i (f.ul d) O O k) ?_
 rintro e _ ⟨D,rfl,x,y⟩
 have z:=d.t x
 refine Nv e O ?_
 cases Y
 exact Cw.ret (zhX O (Res.mk z ⟨e,O,y.s.sub O O⟩))
theorem p125 {x0 b k0 r}(d:Rd W K [b] x0)(Y:Vm.zbZ x0=some r):Q1 125 [b] W [] fun W' v=> ∃ a,v=a/\Ow W' k0 [] [a] r:=
 (c125 (d.view _) Y).ad (fk k0) fun _ _ ⟨a,e,f⟩=>⟨a,e,f.back (zgC _)⟩
theorem c116 {x0 i x1 r}(k:Rd W0 [0] [i] x0)(Y:Vm.zgR x0 x1=some r):Q0 116 [i,vS x1] W0 fun Wf v=> ∃ z,v = .tuple [z,vB r.2].toArray/\OwS Wf LL [] [z] r.1:=by
 unfold Vm.zgR at Y
 refine zak.of Tryz.func116 O O O O (sr (Gv (.slice none 0 0) O (Nb O (ssr (mv i O (Lw.ln x0 k O (mi O (nl (Cw.block ?_)))))))))
 obtain⟨H,I,Y⟩:=zaT Y
 refine Cw.loop 10 21 [4,5,7,10] (fun m l w=> ∃ a b d e A f,CW.w f=w/\Le [3] W0 f/\l=[e,vB b,A,vI d]/\Ow f 2 [] [e] a/\Vm.zcH x0 x1 H m a b d=some r) _ ⟨([]:List Str),false,0, .slice none 0 0,undef,W0,O,Le.refl _ _,O,owN 2 [],Y⟩ ?_
 rintro(_ |S) _ _ σ ⟨a,b,d,e,A,f,rfl,B,rfl,J,Y⟩
 ·cases Y
 unfold Vm.zcH at Y
 have h:=B.s
 refine sr (Lw.lt O (nl (Cw.seq (cn Y (fun Y=>?_) fun Y=>?_))))
 ·refine sk (Cw.seq (Cw.block (sr ?_)))
  obtain⟨T,C,Y⟩:=ob Y
  refine Lw.r O (R.ix (α:=File) (k.ul h) C O O O) ?_
  obtain⟨x15,c16,_,r17⟩:=((k.ul h).at_ C).cells
  obtain⟨U,rfl,r19⟩:=File.split r17
  refine Lw.r O (R.lda c16 O O) (al 3 [vS ([]:Str), .slice none 0 0] fun K V x L=>?_)
  have D:=x.o
  refine sta L (zaa O (zaa r19.oc zaC)) fun M y E=>?_
  have F:=y.s
  refine nl (sr (fl E O (ms O (Lw.seq O (nl (cn Y (fun Y=>?_) fun Y=>?_))))))
  ·refine sr (fl E O (cr Y (fun _=>p125 (k0:=4) (r19.ul (D.trans F))) ?_))
   rintro W G X Y N ⟨_,rfl,P⟩
   have Q:=((h.trans D).trans F).n N
   refine Gv G O (Nb O ?_)
   cases Y
   exact Cw.ret (zow O O (Res.mk Q ⟨G,O,P.s.sub O O⟩))
  ·exact sk (rg (Lw.add O (mi O (nl ((agm) ⟨a,b,w64 (d+1),e,ptr (bx K),M,O,((B.j x).j y).w,O,((J.up x).up y),Y⟩)))))
 ·refine Cw.exit ?_
  rw[I]at Y
  refine sr (Gv (.slice none 0 0) O (Nb O ?_))
  cases Y
  exact Cw.ret (zow O O (Res.mk h ⟨.slice none 0 0,O,(zoT []).sub O O⟩))
theorem p116 {x0 b x1 k0 r}(d:Rd W K [b] x0)(Y:Vm.zgR x0 x1=some r):Q1 116 [b,vS x1] W [] fun W' v=> ∃ a,v = .tuple [a,vB r.2].toArray/\Ow W' k0 [] [a] r.1:=
 (c116 (d.view _) Y).ad (fk k0) fun _ _ ⟨a,e,f⟩=>⟨a,e,f.back (zgC _)⟩
theorem c123 {x0 b x1 f r}(d:Rd W0 [0] [b] x0)(h:Rd W0 [0] [f] x1)(Y:Vm.zaE x0 x1=some r):Q0 123 [b,f] W0 fun Wf v=>v=vB r:=by
 unfold Vm.zaE at Y
 refine zak.of Tryz.func123 O O O O (sr (Nb O (ssr (mv b O (Lw.ln x0 d O (mv f O (Lw.ln x1 h O (Lw.ne O (nl (cn Y (fun Y=>?_) fun Y=>?_))))))))))
 ·exact sr (Nb O (.ret (rt Y (Le.refl _ _))))
 ·refine sk (ssr (mv b O (Lw.ln x0 d O (mi O (nl (Cw.block ?_))))))
  obtain⟨C,D,Y⟩:=zaT Y
  refine Cw.loop 13 25 [4,5,13] (fun m l w=> ∃ i e z k,CW.w k=w/\Le [] W0 k/\l=[vB i,z,vI e]/\Vm.zaF x0 x1 C m i e=some r) _ ⟨false,0,undef,W0,O,Le.refl _ _,O,Y⟩ ?_
  rintro(_ |F) _ _ σ ⟨i,e,z,k,rfl,A,rfl,Y⟩
  ·cases Y
  unfold Vm.zaF at Y
  have B:=A.o
  refine sr (Lw.lt O (nl (Cw.seq (cn Y (fun Y=>?_) fun Y=>?_))))
  ·refine sk (Cw.seq (Cw.block (sr (mi O (Ni O (Cw.seq (Cw.draw [] [(0,0),(1,0),(2,0),(3,1),(4,0),(5,0),(6,0),(7,1),(8,0)] mixed (by kernel_rfl) fun E l10=>?_)))))))
   have a:=B.n l10
   refine Dv b O (Di O ?_)
   obtain⟨G,x,Y⟩:=ob Y
   refine Mw.p O O (fun _=>R.ix (α:=Str) (d.ul a) x O O O) (Mw.q O O (fun _ c=>R.ld O O (zao ((d.ul a).at_ x).1 O ((d.ul a).at_ x).str c)) (Dv f O (Di O ?_)))
   obtain⟨H,y,Y⟩:=ob Y
   refine Mw.p O O (fun _=>R.ix (α:=Str) (h.ul a) y O O O) (Mw.q O O (fun _ c=>R.ld O O (zao ((h.ul a).at_ y).1 O ((h.ul a).at_ y).str c)) (Mw.p O O (fun _=>R.sne O O) (Mw.nil (cn Y (fun Y=>?_) fun Y=>?_))))
   ·exact sr (Nb O (.ret (rt Y a)))
   ·exact sk (rg (Lw.add O (mi O (nl ((agm) ⟨i,w64 (e+1),vI e,E,O,(A.j l10).w,O,Y⟩)))))
  ·refine Cw.exit ?_
   rw[D]at Y
   exact sr (Nb O (.ret (rt Y B)))
theorem p123 {x0 a x1 b r}(d:Rd W K [a] x0)(f:Rd W K [b] x1)(Y:Vm.zaE x0 x1=some r):Q1 123 [a,b] W [] fun W' v=>v=vB r:=
 (c123 (d.view _) (f.view _) Y).ad (fk 0) fun _ _ e=>e
theorem c157 {x0 k x1 x r}(y:Rd W0 [0] [k] x0)(z:Rd W0 [0] [x] x1)(Y:Vm.zk1 x0 x1=some r):Q0 157 [k,x] W0 fun Wf v=> ∃ u0,v=u0/\OwS Wf LL [] [u0] r:=by
 unfold Vm.zk1 at Y
 refine zak.of Tryz.func157 O O O O (sr (Nv (.slice none 0 0) O (sr (mv k O (Lw.ln x0 y O (Lw.add O ?_))))))
 obtain⟨M,e2,Y⟩:=ob Y
 refine Lw.t O (T.mk (α:=List Int) 2 [] (n:=w64 ((x0.length:Int)+1)) O O e2) ?_
 rintro a _ ⟨W3,rfl,l3,o3⟩
 have a4:=l3.o
 refine Nv a O (ssr (mv a O (Lw.ln M o3.rd O (mi O (nl (Cw.block ?_))))))
 obtain⟨a3,a5,Y⟩:=zaT Y
 refine Cw.loop 15 25 [6,15] (fun m l w=> ∃ A F j5 e,CW.w e=w/\Le [2,3] W3 e/\l=[j5,vI A]/\Ow e 2 [] [a] F/\Vm.zeJ x1 M a3 m A F=some r) _ ⟨0,M,undef,W3,O,Le.refl _ _,O,o3,Y⟩ ?_
 rintro(_ |cg) _ _ σ ⟨A,F,j5,e,rfl,l9,rfl,N,Y⟩
 ·cases Y
 unfold Vm.zeJ at Y
 have P:=a4.t l9
 refine sr (Lw.lt O (nl (Cw.seq (cn Y (fun Y=>?_) fun Y=>?_))))
 ·refine sk (Cw.seq (Cw.block (sr (mi O (Ni O (rg (mv a O (mi O (mv x O (Lw.ln x1 (z.ul P) O (Lw.add O ?_)))))))))))
  obtain⟨ch,a6,Y⟩:=ob Y
  refine Lw.t O (T.mk (α:=Int) 3 [] (n:=w64 ((x1.length:Int)+1)) O O a6) ?_
  rintro ci _ ⟨cj,rfl,Q,ao⟩
  obtain⟨ck,a7,Y⟩:=ob Y
  refine Lw.r O (R.ix (α:=List Int) (N.up Q).rd a7 O O O) ?_
  obtain⟨a8,a9,Y⟩:=ob Y
  refine Lw.u (T.stO (J:=[3]) (N.up Q) ao.s a9 O O (zrU ao.oc)) ?_
  rintro _ _ ⟨ba,rfl,bb,bc⟩
  exact nl (rg (Lw.add O (mi O (nl ((agm) ⟨w64 (A+1),a8,vI A,ba,O,((l9.j Q).j bb).w,O,bc,Y⟩)))))
 ·refine Cw.exit ?_
  rw[a5]at Y
  refine ssr (mv k O (Lw.ln x0 (y.ul P) O (Lw.sub O (Ni O (Cw.block ?_)))))
  obtain⟨be,bg,Y⟩:=zaT Y
  refine Cw.loop 29 87 [7,8] (fun m l w=> ∃ B G ap f,CW.w f=w/\Le [2,4,5] e f/\l=[vI B,ap]/\Ow f 2 [] [a] G/\Vm.zdJ x0 x1 be m B G=some r) _ ⟨w64 ((x0.length:Int)-1),F,undef,e,O,Le.refl _ _,O,N,Y⟩ ?_
  rintro(_ |cl) _ _ σ ⟨B,G,ap,f,rfl,aq,rfl,ar,Y⟩
  ·cases Y
  unfold Vm.zdJ at Y
  have S:=P.t aq
  refine ssr (mi O (Lw.ge O (nl (cn Y (fun Y=>?_) fun Y=>?_))))
  ·refine sk (Cw.seq (Cw.block (sr (mv x O (Lw.ln x1 (z.ul S) O (Lw.sub O (Ni O (Cw.block ?_))))))))
   obtain⟨bh,bi,Y⟩:=zaT Y
   refine Cw.loop 36 87 [8] (fun m l w=> ∃ C H h,CW.w h=w/\Le [2,4,5] f h/\l=[vI C]/\Ow h 2 [] [a] H/\Vm.zeI x0 x1 B bh m C H=some r) _ ⟨w64 ((x1.length:Int)-1),G,f,O,Le.refl _ _,O,ar,Y⟩ ?_
   rintro(_ |cm) _ _ σ ⟨C,H,h,rfl,U,rfl,V,Y⟩
   ·cases Y
   unfold Vm.zeI at Y
   have bj:=S.t U
   refine ssr (mi O (Lw.ge O (nl (cn Y (fun Y=>?_) fun Y=>?_))))
   ·refine sk ?_
    obtain⟨bk,bl,Y⟩:=zaT Y
    refine Cw.join 40 87 [] (fun l w=> ∃ I D,CW.w D=w/\Le [2,4,5] h D/\l=[]/\Ow D 2 [] [a] I/\bk I=some r) ?_ ?_
    ·rintro _ _ σ ⟨I,D,rfl,bm,rfl,bn,Y⟩
     rw[bl]at Y
     exact rg (mi O (Lw.sub O (Ni O ((agm) ⟨w64 (C-1),I,D,O,(U.j bm).w,O,bn,Y⟩))))
    ·refine Cw.block (Cw.seq (Cw.draw [] [(0,0),(1,0),(2,0),(3,1),(4,0),(5,0),(6,0),(7,1),(8,0)] mixed (by kernel_rfl) fun co E=>?_))
     have i:=bj.n E
     refine Dv k O (Di O ?_)
     obtain⟨cp,W,Y⟩:=ob Y
     refine Mw.p O O (fun _=>R.ix (α:=Str) (y.ul i) W O O O) (Mw.q O O (fun _ c=>R.ld O O (zao ((y.ul i).at_ W).1 O ((y.ul i).at_ W).str c)) (Dv x O (Di O ?_)))
     obtain⟨cq,X,Y⟩:=ob Y
     refine Mw.p O O (fun _=>R.ix (α:=Str) (z.ul i) X O O O) (Mw.q O O (fun _ c=>R.ld O O (zao ((z.ul i).at_ X).1 O ((z.ul i).at_ X).str c)) (Mw.p O O (fun _=>R.seq O O) (Mw.nil (cn Y (fun Y=>?_) fun Y=>?_))))
     ·refine Cw.draw [] [(0,0),(1,0),(2,0),(3,1),(4,0),(5,0),(6,0),(7,0),(8,0),(9,1),(10,0),(11,0),(12,0),(13,1),(14,0),(15,0),(16,3)] mixed (by kernel_rfl) fun cs au=>?_
      have d:=(V.up E).up au
      refine Dv a O (Di O ?_)
      obtain⟨ct,K,Y⟩:=ob Y
      refine Mw.p O O (fun _=>R.ix (α:=List Int) d.rd K O O O) ?_
      obtain⟨cu,c66,r67⟩:=(d.rd.at_ K).cell O
      refine Mw.q O O (fun _ c=>R.ld O O (zao (d.rd.at_ K).1 O c66 c)) (Di O (Dv a O (Di O (Mw.p O O (fun _=>R.add O O) ?_))))
      obtain⟨cv,Z,Y⟩:=ob Y
      refine Mw.p O O (fun _=>R.ix (α:=List Int) d.rd Z O O O) ?_
      obtain⟨cw,c71,r72⟩:=(d.rd.at_ Z).cell O
      refine Mw.q O O (fun _ c=>R.ld O O (zao (d.rd.at_ Z).1 O c71 c)) (Di O (Mw.p O O (fun _=>R.add O O) ?_))
      obtain⟨cx,aa,Y⟩:=ob Y
      refine Mw.p O O (fun _=>R.ix (α:=Int) r72 aa O O O) (Mw.q O O (fun _ c=>R.ld O O (zao (r72.at_ aa).1 O (r72.at_ aa).int c)) (Mw.p O O (fun _=>R.add O O) ?_))
      obtain⟨cy,bp,Y⟩:=ob Y
      refine Mw.p O O (fun _=>R.ix (α:=Int) r67 bp O O O) ?_
      obtain⟨cz,bq,br,bu,gb77⟩:=Ow.lend (α:=List Int) (β:=List Int) (j:=4) (jf:=0) d K (by rw[zjU];exact c66) O
      rw[<- bq]
      obtain⟨c0,bv,Y⟩:=ob Y
      refine Mw.lu O (T.stS (K':=[]) bu (rdI _) bv O O O) ?_
      rintro _ _ ⟨c1,rfl,av,bw⟩
      obtain⟨bz,b0,b1,b2,eq84,b3⟩:=gb77 _ _ av bw
      obtain⟨aw,eqm84,Y⟩:=ob Y
      obtain rfl:aw=b2:=Option.some.inj (eqm84.symm.trans eq84)
      rw[<- b0]
      exact Mw.nil ((ag) ⟨aw,bz,O,((((E.j au).j br).j av).j b1).w,O,b3,Y⟩)
     ·refine Cw.draw [] [(0,0),(1,0),(2,0),(3,1),(4,0),(5,0),(6,0),(7,0),(8,0),(9,1),(10,0),(11,0),(12,1),(13,0),(14,0),(15,0),(16,1),(17,0),(18,0),(19,0),(20,1),(21,0),(22,0),(23,3)] mixed (by kernel_rfl) fun c2 ax=>?_
      have b:=(V.up E).up ax
      refine Dv a O (Di O ?_)
      obtain⟨c3,L,Y⟩:=ob Y
      refine Mw.p O O (fun _=>R.ix (α:=List Int) b.rd L O O O) ?_
      obtain⟨c4,c92,r93⟩:=(b.rd.at_ L).cell O
      refine Mw.q O O (fun _ c=>R.ld O O (zao (b.rd.at_ L).1 O c92 c)) (Di O (Dv a O (Di O (Mw.p O O (fun _=>R.add O O) ?_))))
      obtain⟨c5,ac,Y⟩:=ob Y
      refine Mw.p O O (fun _=>R.ix (α:=List Int) b.rd ac O O O) ?_
      obtain⟨c6,c97,r98⟩:=(b.rd.at_ ac).cell O
      refine Mw.q O O (fun _ c=>R.ld O O (zao (b.rd.at_ ac).1 O c97 c)) (Di O ?_)
      obtain⟨c7,ae,Y⟩:=ob Y
      refine Mw.p O O (fun _=>R.ix (α:=Int) r98 ae O O O) (Mw.q O O (fun _ c=>R.ld O O (zao (r98.at_ ae).1 O (r98.at_ ae).int c)) (Dv a O (Di O ?_)))
      obtain⟨c8,af,Y⟩:=ob Y
      refine Mw.p O O (fun _=>R.ix (α:=List Int) b.rd af O O O) ?_
      obtain⟨c9,c104,r105⟩:=(b.rd.at_ af).cell O
      refine Mw.q O O (fun _ c=>R.ld O O (zao (b.rd.at_ af).1 O c104 c)) (Di O (Mw.p O O (fun _=>R.add O O) ?_))
      obtain⟨da,ah,Y⟩:=ob Y
      refine Mw.p O O (fun _=>R.ix (α:=Int) r105 ah O O O) (Mw.q O O (fun _ c=>R.ld O O (zao (r105.at_ ah).1 O (r105.at_ ah).int c)) (Mw.p O O (fun _=>R.max O O) ?_))
      obtain⟨db,b4,Y⟩:=ob Y
      refine Mw.p O O (fun _=>R.ix (α:=Int) r93 b4 O O O) ?_
      obtain⟨dc,b5,b6,b7,gb110⟩:=Ow.lend (α:=List Int) (β:=List Int) (j:=5) (jf:=0) b L (by rw[zjU];exact c92) O
      rw[<- b5]
      obtain⟨dd,b8,Y⟩:=ob Y
      refine Mw.lu O (T.stS (K':=[]) b7 (rdI _) b8 O O O) ?_
      rintro _ _ ⟨de,rfl,ay,b9⟩
      obtain⟨cb,cc,cd,ce,eq117,cf⟩:=gb110 _ _ ay b9
      obtain⟨az,eqm117,Y⟩:=ob Y
      obtain rfl:az=ce:=Option.some.inj (eqm117.symm.trans eq117)
      rw[<- cc]
      exact Mw.nil ((ag) ⟨az,cb,O,((((E.j ax).j b6).j ay).j cd).w,O,cf,Y⟩)
   ·refine Cw.exit ?_
    rw[bi]at Y
    exact rg (mi O (Lw.sub O (Ni O ((agm) ⟨w64 (B-1),H,vI C,h,O,(aq.j U).w,O,V,Y⟩))))
  ·refine Cw.exit ?_
   rw[bg]at Y
   refine sr (mv a O (Nv a O ?_))
   cases Y
   exact Cw.ret (zhX O (Res.mk S ⟨a,O,ar.s.sub O O⟩))
theorem p157 {x0 b x1 d k0 r}(f:Rd W K [b] x0)(h:Rd W K [d] x1)(Y:Vm.zk1 x0 x1=some r):Q1 157 [b,d] W [] fun W' v=> ∃ a,v=a/\Ow W' k0 [] [a] r:=
 (c157 (f.view _) (h.view _) Y).ad (fk k0) fun _ _ ⟨a,e,i⟩=>⟨a,e,i.back (zgC _)⟩
end Go.Sx
