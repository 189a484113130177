/- Walks: each function answers as its model, printed by a program of ours. Conditions: the arguments read as they are given. -/
import Derived.Test.YtpijdodljeieaaaGreatDoorBTs
import Derived.Test.YtpijdodljeieaaaGreatDoorBM0
import Derived.Test.YtpijdodljeieaaaGreatDoorBW5
import Derived.Test.YtpijdodljeieaaaGreatDoorBE
namespace Go.Sx
open Go Go.Proofs Go.Vm Rp
set_option linter.unusedVariables false
set_option linter.unusedSimpArgs false
variable {W W0:CW}{K:List Nat}
theorem c126 {x0 r}(C:Gl 0 W0 [0])(Y:Vm.zfO x0=some r):Q0 126 [vS x0] W0 fun Wf v=>v=vB r:=by
 unfold Vm.zfO at Y
 refine zaT.of Tryz.func126 O O O O (sr (Nb O (sr (ms O (cr Y (fun _=>p148 (k0:=2) C) ?_)))))
 rintro f h k Y D ⟨_,rfl,a⟩
 have x:=D.o
 refine Nv h O (ssr (mv h O (Lw.ln f a.rd O (Lw.gt O (nl (cn Y (fun Y=>?_) fun Y=>?_))))))
 ·exact sr (Nb O (.ret (rt Y x)))
 ·refine sk (ssr (mv h O (Lw.ln f a.rd O (mi O (nl (Cw.block ?_))))))
  obtain⟨E,F,Y⟩:=zc4 Y
  refine Cw.loop 13 20 [2,5,13] (fun m l w=> ∃ b d y i,CW.w i=w/\Le [] k i/\l=[vB b,y,vI d]/\Vm.zcw f E m b d=some r) _ ⟨false,0,undef,k,O,Le.refl _ _,O,Y⟩ ?_
  rintro(_ |J) _ _ σ ⟨b,d,y,i,rfl,e,rfl,Y⟩
  ·cases Y
  unfold Vm.zcw at Y
  have z:=x.n e
  refine sr (Lw.lt O (nl (Cw.seq (cn Y (fun Y=>?_) fun Y=>?_))))
  ·refine sk (Cw.seq (Cw.block (sr ?_)))
   obtain⟨G,A,Y⟩:=ob Y
   refine Lw.r O (R.ix (α:=Str) (a.up e).rd A O O O) (Lw.r O (R.ld O O ((a.up e).rd.at_ A).str) (Ns O (sr (ms O (ca Y (fun _=>p96) fun K H Y B=>?_)))))
   have I:=z.n B
   refine Lw.r O (R.not O) (nl (cn Y (fun Y=>?_) fun Y=>?_))
   ·exact sr (Nb O (.ret (rt Y I)))
   ·exact sk (rg (Lw.add O (mi O (nl ((agm) ⟨b,w64 (d+1),vS G,H,O,(e.j B).w,O,Y⟩)))))
  ·refine Cw.exit ?_
   rw[F]at Y
   exact sr (Nb O (.ret (rt Y z)))
theorem p126 {x0 r}(a:Gl 0 W K)(Y:Vm.zfO x0=some r):Q1 126 [vS x0] W [] fun W' v=>v=vB r:=
 (c126 (a.view _) Y).ad (fk 0) fun _ _ e=>e
theorem c111 {x0 x1 r}(h:Gl 0 W0 [0])(Y:Vm.zbG x0 x1=some r):Q0 111 [vS x0,vS x1] W0 fun Wf v=>v=vB r:=by
 unfold Vm.zbG at Y
 refine zaT.of Tryz.func111 O O O O (sr (Nb O ?_))
 obtain⟨k,x,Y⟩:=zc4 Y
 refine Cw.join 5 16 [4] (fun l w=> ∃ e f,CW.w f=w/\Le [] W0 f/\l=[vB e]/\k e=some r) ?_ ?_
 ·rintro _ _ σ ⟨e,f,rfl,y,rfl,Y⟩
  rw[x]at Y
  have z:=y.o
  exact .ret (rt Y z)
 ·refine rg (ms O (ca Y (fun _=>p126 h) fun H A Y d=>?_))
  have B:=d.o
  refine mb O (bs Y (fun a Y=>?_) fun a Y=>?_)
  ·refine wak 2 a (ms O (ca Y (fun _=>p126 (h.ul B)) fun I C Y i=>Pb a O (mb O (bs Y (fun b Y=>?_) fun b Y=>?_))))
   ·refine wak 4 b (ms O (ms O ?_))
    obtain⟨J,D,Y⟩:=ob Y
    exact Lw.r O (R.sad D O O) (ca Y (fun _=>p142) fun E F Y G=>Pb b O (Nb O ((ag) ⟨E,F,O,((d.j i).j G).w,O,Y⟩)))
   ·exact psk 4 b O (Pb b O (Nb O ((ag) ⟨false,C,O,(d.j i).w,O,Y⟩)))
  ·exact psk 2 a O (Pb a O (mb O (psk 4 O O (Pb O O (Nb O ((ag) ⟨false,A,O,d,O,Y⟩))))))
theorem p111 {x0 x1 r}(a:Gl 0 W K)(Y:Vm.zbG x0 x1=some r):Q1 111 [vS x0,vS x1] W [] fun W' v=>v=vB r:=
 (c111 (a.view _) Y).ad (fk 0) fun _ _ e=>e
theorem c72 {x0 h r}(f:Rd W0 [0] [h] x0)(ac:Gl 0 W0 [0])(Y:Vm.zf9 x0=some r):Q0 72 [h] W0 fun Wf v=>v=vB r:=by
 unfold Vm.zf9 at Y
 refine zaT.of Tryz.func72 O O O O (sr (Nb O (ssr (mv h O (Lw.ln x0 f O (Lw.gt O (nl (cn Y (fun Y=>?_) fun Y=>?_))))))))
 ·exact sr (Nb O (.ret (rt Y (Le.refl _ _))))
 ·refine sk (ssr (mv h O (Lw.ln x0 f O (mi O (nl (Cw.block ?_))))))
  obtain⟨K8,av,Y⟩:=zc4 Y
  refine Cw.loop 12 56 [2,3,4,6,12] (fun m l w=> ∃ B d j3 j4 J K,CW.w K=w/\Le [2,3] W0 K/\l=[vB B,j3,j4,J,vI d]/\Vm.zcx x0 K8 m B d=some r) _ ⟨false,0,undef,undef,undef,W0,O,Le.refl _ _,O,Y⟩ ?_
  rintro(_ |m9) _ _ σ ⟨B,d,j3,j4,J,K,rfl,l7,rfl,Y⟩
  ·cases Y
  unfold Vm.zcx at Y
  have i:=l7.s
  refine sr (Lw.lt O (nl (Cw.seq (cn Y (fun Y=>?_) fun Y=>?_))))
  ·refine sk (Cw.seq (Cw.block (sr (mi O ?_))))
   obtain⟨k,ai,Y⟩:=ob Y
   refine Lw.r O (R.ix (α:=File) (f.ul i) ai O O O) ?_
   obtain⟨x15,c16,_,r17⟩:=((f.ul i).at_ ai).cells
   obtain⟨bi,rfl,r19⟩:=File.split r17
   refine Lw.r O (R.lda c16 O O) (al 2 [vS ([]:Str), .slice none 0 0] fun aw bj aj ax=>?_)
   have C:=aj.o
   refine Gi O (sta ax (zaf O (zaf r19.oc zaW)) fun ay ak am=>?_)
   have D:=ak.s
   refine nl (Cw.seq ?_)
   obtain⟨az,a0,Y⟩:=zc4 Y
   refine Cw.join 17 41 [41] (fun l w=> ∃ L z,CW.w z=w/\Le [] ay z/\l=[vB L]/\az L=some r) ?_ ?_
   ·rintro _ _ σ ⟨L,z,rfl,M,rfl,Y⟩
    rw[a0]at Y
    have E:=((i.trans C).trans D).n M
    refine cn Y (fun Y=>?_) fun Y=>?_
    ·exact sr (Nb O (.ret (rt Y E)))
    ·refine sk (sr (mv h O (mi O ?_)))
     obtain⟨an,ao,Y⟩:=ob Y
     have r34:=(f.ul E).cutV ao
     refine Lw.r O (R.sl (f.ul E) ao O (.inl ⟨O,O⟩) (.inr O)) (Lw.ln an r34 O (mi O (nl (Cw.block ?_))))
     obtain⟨a1,a2,Y⟩:=zc4 Y
     refine Cw.loop 46 55 [2,6,46] (fun m l w=> ∃ A F N G,CW.w G=w/\Le [3] z G/\l=[vB A,N,vI F]/\Vm.zbg k an a1 m A F=some r) _ ⟨B,0,J,z,O,Le.refl _ _,O,Y⟩ ?_
     rintro(_ |bk) _ _ σ ⟨A,F,N,G,rfl,H,rfl,Y⟩
     ·cases Y
     unfold Vm.zbg at Y
     have P:=H.s
     refine sr (Lw.lt O (nl (Cw.seq (cn Y (fun Y=>?_) fun Y=>?_))))
     ·refine sk (Cw.seq (Cw.block (sr ?_)))
      obtain⟨bl,ap,Y⟩:=ob Y
      refine Lw.r O (R.ix (α:=File) (r34.ul P) ap O O O) ?_
      obtain⟨x47,c48,_,r49⟩:=((r34.ul P).at_ ap).cells
      obtain⟨bm,rfl,r51⟩:=File.split r49
      refine Lw.r O (R.lda c48 O O) (al 3 [vS ([]:Str), .slice none 0 0] fun a3 bn Q a4=>?_)
      have a5:=(E.trans P).n Q
      refine sta a4 (zaf O (zaf r51.oc zaW)) fun bp S a6=>?_
      have aq:=a5.t S
      refine nl (sr (fl a6 O (fl ((((am.up M).up H).up Q).up S) O (ca Y (fun _=>p111 (ac.ul aq)) fun bq a7 Y ar=>?_))))
      have a8:=aq.n ar
      refine nl (cn Y (fun Y=>?_) fun Y=>?_)
      ·exact sr (Nb O (.ret (rt Y a8)))
      ·exact sk (rg (Lw.add O (mi O (nl ((agm) ⟨A,w64 (F+1),ptr (bx a3),a7,O,(((H.j Q).j S).j ar).w,O,Y⟩)))))
     ·refine Cw.exit ?_
      rw[a2]at Y
      exact rg (Lw.add O (mi O (nl ((agm) ⟨A,w64 (d+1),vI d,ptr (bx aw),N,G,O,((((l7.j aj).j ak).j M).j H).w,O,Y⟩))))
   ·refine Cw.draw [] [(0,0),(1,1),(2,2),(3,0),(4,0),(5,0),(6,1),(7,2),(8,0),(9,0),(10,0),(11,0),(12,0),(13,0),(14,0),(15,0),(16,0),(17,0),(18,0),(19,1),(20,0),(21,1),(22,0),(23,0),(24,0)] mixed (by kernel_rfl) fun br x=>?_
    have U:=x.o
    have V:=am.up x
    refine Dfl V O O O ?_
    obtain⟨bu,a9,Y⟩:=ob Y
    refine Mw.t O O (T.call O (p84 (r19.ul ((C.trans D).trans U)) a9)) ?_
    rintro _ _ ⟨ba,rfl,y,rfl⟩
    have bb:=(((i.trans C).trans D).trans U).n y
    refine m0 y fun bc=>Mw.p O O (fun _=>R.not O) (Db O (bs Y (fun e Y=>?_) fun e Y=>?_))
    ·exact dps 4 e O (Mw.p O O (fun _=>R.pk e O (v:=vB true) O) (Db O (dps 3 O O (dpu 9 O (dps 1 O O (Mw.p O O (fun _=>R.pk O O (v:=vB true) O) (Mw.nil ((ag) ⟨true,ba,O,(x.j y).w,O,Y⟩))))))))
    ·refine Wp e O (fun _=>R.fa O) (Wq e O (fun _ c=>R.ld (v:=vS k.Path) O O (V.clc O O c)) ?_)
     obtain⟨be,bg,Y⟩:=ob Y
     refine Wt e O (T.call O (p126 (ac.ul bb) bg)) ?_
     rintro _ _ ⟨W,rfl,I,rfl⟩
     refine mc bc I fun bv=>Wp e O (fun _=>R.not O) (Mw.p O O (fun _=>R.pk e O (v:=vB (!be)) O) (Db O (bs Y (fun b Y=>?_) fun b Y=>?_)))
     ·exact dps 3 b O (dpu 9 O (dps 1 b O (Mw.p O O (fun _=>R.pk b O (v:=vB true) O) (Mw.nil ((ag) ⟨true,W,O,((x.j y).j I).w,O,Y⟩)))))
     ·refine Wp b O (fun _=>R.mv (v:=vI d) O) (Wp b O (fun _=>R.gt O O) (Wp b O (fun _=>R.mv (v:=vB (decide (0< (d:Int)))) O) (bs Y (fun a Y=>?_) fun a Y=>?_)))
      ·refine Wp a O (fun _=>R.mv (v:=h) O) (Wp a O (fun _=>R.mv (v:=vI d) O) (Wp a O (fun _=>R.sub O O) ?_))
       obtain⟨X,Z,Y⟩:=ob Y
       have aa:=f.ul (((i.trans C).trans D).trans U)
       exact Wp a O (fun _=>R.ix (α:=File) aa Z O O O) (Wp a O (fun _=>R.fa O) (Wq a O (fun _ c=>R.ld O O (zaD (File.at0 (aa.at_ Z)).1 O (File.at0 (aa.at_ Z)).str c)) (Wp a O (fun _=>R.fa O) (Wq a O (fun _ c=>R.ld (v:=vS k.Path) O O (V.clc O O c)) (Wp a O (fun _=>R.sge O O) (Wp b O (fun _=>R.pk a O (v:=vB (!Op.bytesLess X.Path k.Path)) O) (Mw.p O O (fun _=>R.pk b O (v:=vB (!Op.bytesLess X.Path k.Path)) O) (Mw.nil ((ag) ⟨(!Op.bytesLess X.Path k.Path),W,O,((x.j y).j I).w,O,Y⟩)))))))))
      ·exact dps 9 a O (Wp b O (fun _=>R.pk a O (v:=vB false) O) (Mw.p O O (fun _=>R.pk b O (v:=vB false) O) (Mw.nil ((ag) ⟨false,W,O,((x.j y).j I).w,O,Y⟩))))
  ·refine Cw.exit ?_
   rw[av]at Y
   exact sr (Nb O (.ret (rt Y i)))
theorem p72 {x0 a r}(b:Rd W K [a] x0)(d:Gl 0 W K)(Y:Vm.zf9 x0=some r):Q1 72 [a] W [] fun W' v=>v=vB r:=
 (c72 (b.view _) (d.view _) Y).ad (fk 0) fun _ _ e=>e
theorem c98 {x0 a b x1 r}(f:Rd W0 [0] [a,b] x0)(Y:Vm.za7 x0 x1=some r):Q0 98 [.agg [a,b].toArray,vI x1] W0 fun Wf v=>v=vB r:=by
 unfold Vm.za7 at Y
 obtain⟨z,A,d,h,B⟩:=Repo.split f
 simp only[List.cons.injEq,and_true,true_and]at d
 obtain⟨rfl,rfl⟩:=d
 refine zaT.of Tryz.func98 O O O O (sr (bo 2 O fun C D i k=>?_))
 have e:=i.o
 refine Nb O (sr (mi O (fl k O (Lw.ln x0.Commits (h.ul e) O (Lw.sub O (ca Y (fun _=>p64) fun E F Y x=>?_))))))
 have y:=e.n x
 exact Nb O (.ret (rt Y y))
theorem p98 {x0 a b x1 r}(d:Rd W K [a,b] x0)(Y:Vm.za7 x0 x1=some r):Q1 98 [.agg [a,b].toArray,vI x1] W [] fun W' v=>v=vB r:=
 (c98 (d.view _) Y).ad (fk 0) fun _ _ e=>e
theorem c97 {x0 E F x1 k r}(h0:Rd W0 [0] [E,F] x0)(f:Rd W0 [0] [k] x1)(Y:Vm.zfu x0 x1=some r):Q0 97 [.agg [E,F].toArray,k] W0 fun Wf v=>v=vB r:=by
 unfold Vm.zfu at Y
 obtain⟨a3,a4,S,af,ah⟩:=Repo.split h0
 simp only[List.cons.injEq,and_true,true_and]at S
 obtain⟨rfl,rfl⟩:=S
 refine zaT.of Tryz.func97 O O O O (sr (bo 2 O fun g1 U l1 b1=>?_))
 have y:=l1.o
 refine Nb O (ssr (mv k O (Lw.ln x1 (f.ul y) O (Lw.gt O (nl (cn Y (fun Y=>?_) fun Y=>?_))))))
 ·exact sr (Nb O (.ret (rt Y y)))
 ·refine sk (ssr (mv k O (Lw.ln x1 (f.ul y) O (mi O (nl (Cw.block ?_))))))
  obtain⟨ak,am,Y⟩:=zc4 Y
  refine Cw.loop 12 43 [4,5,6,12] (fun m l w=> ∃ z e V W G,CW.w G=w/\Le [3] U G/\l=[vB z,V,W,vI e]/\Vm.zbR x0 x1 ak m z e=some r) _ ⟨false,0,undef,undef,U,O,Le.refl _ _,O,Y⟩ ?_
  rintro(_ |a6) _ _ σ ⟨z,e,V,W,G,rfl,H,rfl,Y⟩
  ·cases Y
  unfold Vm.zbR at Y
  have A:=y.t H
  refine sr (Lw.lt O (nl (Cw.seq (cn Y (fun Y=>?_) fun Y=>?_))))
  ·refine sk (Cw.seq (Cw.block (sr (mi O ?_))))
   obtain⟨x,X,Y⟩:=ob Y
   refine Lw.r O (R.ix (α:=Head) (f.ul A) X O O O) ?_
   obtain⟨x18,c19,_,r20⟩:=((f.ul A).at_ X).cells
   obtain rfl:=Head.split r20
   refine Lw.r O (R.lda c19 O O) (al 3 [vS ([]:Str),vI 0] fun an a7 I ao=>?_)
   have ap:=A.n I
   refine Gi O (sta ao (zaf O (zaf O zaW)) fun aq J ar=>?_)
   have Z:=ap.t J
   refine nl ?_
   obtain⟨au,av,Y⟩:=zc4 Y
   refine Cw.join 17 42 [42] (fun l w=> ∃ L B,CW.w B=w/\Le [] aq B/\l=[vB L]/\au L=some r) ?_ ?_
   ·rintro _ _ σ ⟨L,B,rfl,aa,rfl,Y⟩
    rw[av]at Y
    have aw:=Z.n aa
    refine cn Y (fun Y=>?_) fun Y=>?_
    ·exact sr (Nb O (.ret (rt Y aw)))
    ·exact sk (rg (Lw.add O (mi O (nl ((agm) ⟨z,w64 (e+1),vI e,ptr (bx an),B,O,(((H.j I).j J).j aa).w,O,Y⟩)))))
   ·refine Cw.draw [] [(0,0),(1,1),(2,2),(3,0),(4,0),(5,1),(6,0),(7,1),(8,2),(9,0),(10,0),(11,0),(12,0),(13,0),(14,0),(15,0),(16,0),(17,0),(18,0),(19,0),(20,1),(21,0),(22,1),(23,0),(24,0),(25,0)] mixed (by kernel_rfl) fun a8 h=>?_
    have C:=Z.n h
    have M:=ar.up h
    refine Dfl M O O O ?_
    obtain⟨a9,ax,Y⟩:=ob Y
    refine Mw.t O O (T.call O (p96 ax)) ?_
    rintro _ _ ⟨ay,rfl,i,rfl⟩
    have ac:=C.n i
    refine m0 i fun az=>Mw.p O O (fun _=>R.not O) (Db O (bs Y (fun d Y=>?_) fun d Y=>?_))
    ·exact dps 5 d O (Mw.p O O (fun _=>R.pk d O (v:=vB true) O) (Db O (dps 3 O O (dpu 9 O (dps 1 O O (Mw.p O O (fun _=>R.pk O O (v:=vB true) O) (Mw.nil ((ag) ⟨true,ay,O,(h.j i).w,O,Y⟩))))))))
    ·refine Wq d O (fun _ c=>R.lda (cs:=[E,F]) (((((b1.up H).up I).up J).up h).clcs O c) O O) (Wp d O (fun _=>R.fa O) (Wq d O (fun _ c=>R.ld (v:=vI x.At) O O (M.clc O O c)) ?_))
     obtain⟨a0,a1,Y⟩:=ob Y
     refine Wt d O (T.call O (p98 (Repo.rd (K:=[0]) x0.Commits x0.Heads (af.ul ac) (ah.ul ac)) a1)) ?_
     rintro _ _ ⟨N,rfl,D,rfl⟩
     refine mc az D fun ba=>Wp d O (fun _=>R.not O) (Mw.p O O (fun _=>R.pk d O (v:=vB (!a0)) O) (Db O (bs Y (fun b Y=>?_) fun b Y=>?_)))
     ·exact dps 3 b O (dpu 9 O (dps 1 b O (Mw.p O O (fun _=>R.pk b O (v:=vB true) O) (Mw.nil ((ag) ⟨true,N,O,((h.j i).j D).w,O,Y⟩)))))
     ·refine Wp b O (fun _=>R.mv (v:=vI e) O) (Wp b O (fun _=>R.gt O O) (Wp b O (fun _=>R.mv (v:=vB (decide (0< (e:Int)))) O) (bs Y (fun a Y=>?_) fun a Y=>?_)))
      ·refine Wp a O (fun _=>R.mv (v:=k) O) (Wp a O (fun _=>R.mv (v:=vI e) O) (Wp a O (fun _=>R.sub O O) ?_))
       obtain⟨P,Q,Y⟩:=ob Y
       exact Wp a O (fun _=>R.ix (α:=Head) (f.ul C) Q O O O) (Wp a O (fun _=>R.fa O) (Wq a O (fun _ c=>R.ld O O (zaD (Head.at0 ((f.ul C).at_ Q)).1 O (Head.at0 ((f.ul C).at_ Q)).str c)) (Wp a O (fun _=>R.fa O) (Wq a O (fun _ c=>R.ld (v:=vS x.Name) O O (M.clc O O c)) (Wp a O (fun _=>R.sge O O) (Wp b O (fun _=>R.pk a O (v:=vB (!Op.bytesLess P.Name x.Name)) O) (Mw.p O O (fun _=>R.pk b O (v:=vB (!Op.bytesLess P.Name x.Name)) O) (Mw.nil ((ag) ⟨(!Op.bytesLess P.Name x.Name),N,O,((h.j i).j D).w,O,Y⟩)))))))))
      ·exact dps 9 a O (Wp b O (fun _=>R.pk a O (v:=vB false) O) (Mw.p O O (fun _=>R.pk b O (v:=vB false) O) (Mw.nil ((ag) ⟨false,N,O,((h.j i).j D).w,O,Y⟩))))
  ·refine Cw.exit ?_
   rw[am]at Y
   exact sr (Nb O (.ret (rt Y A)))
theorem p97 {x0 a b x1 d r}(f:Rd W K [a,b] x0)(h:Rd W K [d] x1)(Y:Vm.zfu x0 x1=some r):Q1 97 [.agg [a,b].toArray,d] W [] fun W' v=>v=vB r:=
 (c97 (f.view _) (h.view _) Y).ad (fk 0) fun _ _ e=>e
theorem c32 {x0 ae af r}(h0:Rd W0 [0] [ae,af] x0)(ah:Gl 0 W0 [0])(Y:Vm.zde x0=some r):Q0 32 [.agg [ae,af].toArray] W0 fun Wf v=>v=vB r:=by
 unfold Vm.zde at Y
 obtain⟨b9,cb,ai,C,aj⟩:=Repo.split h0
 simp only[List.cons.injEq,and_true,true_and]at ai
 obtain⟨rfl,rfl⟩:=ai
 refine zaT.of Tryz.func32 O O O O (sr (bo 2 O fun g1 W1 l1 G=>?_))
 have H:=l1.o
 refine Nb O (ssr (fl G O (Lw.ln x0.Commits (C.ul H) O (Lw.gt O (nl (cn Y (fun Y=>?_) fun Y=>?_))))))
 ·exact sr (Nb O (.ret (rt Y H)))
 ·refine sk (ssr (fl G O (Lw.ln x0.Commits (C.ul H) O (mi O (nl (Cw.block ?_))))))
  obtain⟨bb,bc,Y⟩:=zc4 Y
  refine Cw.loop 14 65 [2,3,4,6,14] (fun m l w=> ∃ I B j6 j7 Q S,CW.w S=w/\Le [3] W1 S/\l=[vB I,j6,j7,Q,vI B]/\Vm.zcy x0 bb m I B=some r) _ ⟨false,0,undef,undef,undef,W1,O,Le.refl _ _,O,Y⟩ ?_
  rintro(_ |cd) _ _ σ ⟨I,B,j6,j7,Q,S,rfl,l10,rfl,Y⟩
  ·cases Y
  unfold Vm.zcy at Y
  have d:=H.t l10
  refine sr (Lw.lt O (nl (Cw.seq (cn Y (fun Y=>?_) fun Y=>?_))))
  ·refine sk (Cw.seq (Cw.block (sr (mi O ?_))))
   obtain⟨A,ao,Y⟩:=ob Y
   refine Lw.r O (R.ix (α:=Commit) (C.ul d) ao O O O) ?_
   obtain⟨x19,c20,_,r21⟩:=((C.ul d).at_ ao).cells
   obtain⟨U,ap,rfl,r23,r25⟩:=Commit.split r21
   refine Lw.r O (R.lda c20 O O) (al 3 [.slice none 0 0,vS ([]:Str), .slice none 0 0] fun be ce aq bg=>?_)
   have e:=aq.o
   refine Gi O (sta bg (zaf r23.oc (zaf O (zaf r25.oc zaW))) fun bh ar au=>?_)
   have f:=ar.s
   refine nl (Cw.seq ?_)
   obtain⟨bi,bj,Y⟩:=zc4 Y
   refine Cw.join 19 51 [51] (fun l w=> ∃ V D,CW.w D=w/\Le [] bh D/\l=[vB V]/\bi V=some r) ?_ ?_
   ·rintro _ _ σ ⟨V,D,rfl,W,rfl,Y⟩
    rw[bj]at Y
    have J:=W.o
    refine cn Y (fun Y=>?_) fun Y=>?_
    ·exact sr (Nb O (.ret (rt Y (((d.trans e).trans f).trans J))))
    ·refine sk (sr (fl (au.up W) O (Lw.ln A.Parents (r23.ul ((e.trans f).trans J)) O (mi O (nl (Cw.block ?_))))))
     obtain⟨bk,bl,Y⟩:=zc4 Y
     refine Cw.loop 55 64 [2,6,55] (fun m l w=> ∃ E L X M,CW.w M=w/\Le [] D M/\l=[vB E,X,vI L]/\Vm.zbh B A bk m E L=some r) _ ⟨I,0,Q,D,O,Le.refl _ _,O,Y⟩ ?_
     rintro(_ |cf) _ _ σ ⟨E,L,X,M,rfl,Z,rfl,Y⟩
     ·cases Y
     unfold Vm.zbh at Y
     have av:=Z.o
     refine sr (Lw.lt O (nl (Cw.seq (cn Y (fun Y=>?_) fun Y=>?_))))
     ·refine sk (Cw.seq (Cw.block (sr ?_)))
      obtain⟨bm,aw,Y⟩:=ob Y
      have ax:=r23.ul (((e.trans f).trans J).trans av)
      refine Lw.r O (R.ix (α:=Int) ax aw O O O) (Lw.r O (R.ld O O (ax.at_ aw).int) (Ni O (sr (mi O (mi O (Lw.sub O (ca Y (fun _=>p64) fun cg bn Y ay=>?_)))))))
      have bp:=((((d.trans e).trans f).trans J).trans av).n ay
      refine Lw.r O (R.not O) (nl (cn Y (fun Y=>?_) fun Y=>?_))
      ·exact sr (Nb O (.ret (rt Y bp)))
      ·exact sk (rg (Lw.add O (mi O (nl ((agm) ⟨E,w64 (L+1),vI bm,bn,O,(Z.j ay).w,O,Y⟩)))))
     ·refine Cw.exit ?_
      rw[bl]at Y
      exact rg (Lw.add O (mi O (nl ((agm) ⟨E,w64 (B+1),vI B,ptr (bx be),X,M,O,((((l10.j aq).j ar).j W).j Z).w,O,Y⟩))))
   ·refine Cw.draw [] [(0,0),(1,1),(2,0),(3,0),(4,0),(5,0),(6,1),(7,0),(8,0),(9,0),(10,0),(11,1),(12,0),(13,1),(14,0),(15,1),(16,0),(17,1),(18,0),(19,0),(20,0),(21,0),(22,0),(23,1),(24,2),(25,0),(26,0),(27,0),(28,0),(29,1),(30,2),(31,0),(32,0)] mixed (by kernel_rfl) fun az h=>?_
    have F:=h.o
    have i:=au.up h
    have k:=r23.ul ((e.trans f).trans F)
    refine Dfl i O O O (Mw.p O O (fun _=>zo6 (xs:=A.Parents) k O) (Mw.p O O (fun _=>R.gt O O) (Db O (bs Y (fun a Y=>?_) fun a Y=>?_))))
    ·exact dps 5 a O (dpu 9 O (dps 1 a O (Mw.p O O (fun _=>R.pk a O (v:=vB true) O) (Db O (dps 4 O O (Mw.p O O (fun _=>R.pk O O (v:=vB true) O) (Db O (dps 4 O O (Mw.p O O (fun _=>R.pk O O (v:=vB true) O) (Mw.nil ((ag) ⟨true,az,O,h,O,Y⟩)))))))))))
    ·refine Wp a O (fun _=>R.fa O) (Wq a O (fun _ c=>R.ld (v:=U) O O (i.clc O O c)) (Wp a O (fun _=>zo6 (xs:=A.Parents) k O) (Wp a O (fun _=>R.eq O O) (Wp a O (fun _=>R.mv (v:=vB ((A.Parents.length:Int)==2)) O) (bs Y (fun b Y=>?_) fun b Y=>?_)))))
     ·refine Wp b O (fun _=>R.fa O) (Wq b O (fun _ c=>R.ld (v:=U) O O (i.clc O O c)) ?_)
      obtain⟨a0,aa,Y⟩:=ob Y
      refine Wp b O (fun _=>R.ix (α:=Int) k aa O O O) (Wq b O (fun _ c=>R.ld O O (zaD (k.at_ aa).1 O (k.at_ aa).int c)) (Wp b O (fun _=>R.fa O) (Wq b O (fun _ c=>R.ld (v:=U) O O (i.clc O O c)) ?_)))
      obtain⟨a1,ac,Y⟩:=ob Y
      refine Wp b O (fun _=>R.ix (α:=Int) k ac O O O) (Wq b O (fun _ c=>R.ld O O (zaD (k.at_ ac).1 O (k.at_ ac).int c)) (Wp b O (fun _=>R.eq O O) (Wp a O (fun _=>R.pk b O (v:=vB ((a0:Int)==(a1:Int))) O) (Mw.p O O (fun _=>R.pk a O (v:=vB ((a0:Int)==(a1:Int))) O) (Db O (bs Y (fun x Y=>?_) fun x Y=>?_))))))
      ·exact dps 4 x O (Mw.p O O (fun _=>R.pk x O (v:=vB true) O) (Db O (dps 4 O O (Mw.p O O (fun _=>R.pk O O (v:=vB true) O) (Mw.nil ((ag) ⟨true,az,O,h,O,Y⟩))))))
      ·refine Wp x O (fun _=>R.fa O) (Wq x O (fun _ c=>R.ld (v:=vS A.Who) O O (i.clc O O c)) ?_)
       obtain⟨bq,br,Y⟩:=ob Y
       refine Wt x O (T.call O (p96 br)) ?_
       rintro _ _ ⟨bu,rfl,N,rfl⟩
       have a3:=N.o
       refine m0 N fun bv=>Wp x O (fun _=>R.not O) (Mw.p O O (fun _=>R.pk x O (v:=vB (!bq)) O) (Db O (bs Y (fun y Y=>?_) fun y Y=>?_)))
       ·exact dps 4 y O (Mw.p O O (fun _=>R.pk y O (v:=vB true) O) (Mw.nil ((ag) ⟨true,bu,O,(h.j N).w,O,Y⟩)))
       ·refine Wp y O (fun _=>R.fa O) (Wq y O (fun _ c=>R.ld (v:=ap) O O (i.clc O O c)) ?_)
        obtain⟨a4,bw,Y⟩:=ob Y
        refine Wt y O (T.call O (p72 (r25.ul (((e.trans f).trans F).trans a3)) (ah.ul ((((d.trans e).trans f).trans F).trans a3)) bw)) ?_
        rintro _ _ ⟨bz,rfl,a5,rfl⟩
        exact mc bv a5 fun ch=>Wp y O (fun _=>R.not O) (Mw.p O O (fun _=>R.pk y O (v:=vB (!a4)) O) (Mw.nil ((ag) ⟨(!a4),bz,O,((h.j N).j a5).w,O,Y⟩)))
     ·refine dps 9 b O (Wp a O (fun _=>R.pk b O (v:=vB false) O) (Mw.p O O (fun _=>R.pk a O (v:=vB false) O) (Db O (Wp O O (fun _=>R.fa O) (Wq O O (fun _ c=>R.ld (v:=vS A.Who) O O (i.clc O O c)) ?_)))))
      obtain⟨b0,b2,Y⟩:=ob Y
      refine Wt O O (T.call O (p96 b2)) ?_
      rintro _ _ ⟨b3,rfl,P,rfl⟩
      have a6:=P.o
      refine m0 P fun b4=>Wp O O (fun _=>R.not O) (Mw.p O O (fun _=>R.pk O O (v:=vB (!b0)) O) (Db O (bs Y (fun z Y=>?_) fun z Y=>?_)))
      ·exact dps 4 z O (Mw.p O O (fun _=>R.pk z O (v:=vB true) O) (Mw.nil ((ag) ⟨true,b3,O,(h.j P).w,O,Y⟩)))
      ·refine Wp z O (fun _=>R.fa O) (Wq z O (fun _ c=>R.ld (v:=ap) O O (i.clc O O c)) ?_)
       obtain⟨a7,b5,Y⟩:=ob Y
       refine Wt z O (T.call O (p72 (r25.ul (((e.trans f).trans F).trans a6)) (ah.ul ((((d.trans e).trans f).trans F).trans a6)) b5)) ?_
       rintro _ _ ⟨b6,rfl,a8,rfl⟩
       exact mc b4 a8 fun ci=>Wp z O (fun _=>R.not O) (Mw.p O O (fun _=>R.pk z O (v:=vB (!a7)) O) (Mw.nil ((ag) ⟨(!a7),b6,O,((h.j P).j a8).w,O,Y⟩)))
  ·refine Cw.exit ?_
   rw[bc]at Y
   refine sr (la (G.up l10) (fl (G.up l10) O (ca Y (fun _=>p97 (Repo.rd (K:=[0]) x0.Commits x0.Heads (C.ul d) (aj.ul d)) (aj.ul d)) fun cj ck Y b7=>?_)))
   have b8:=d.n b7
   exact Nb O (.ret (rt Y b8))
theorem p32 {x0 a b r}(d:Rd W K [a,b] x0)(f:Gl 0 W K)(Y:Vm.zde x0=some r):Q1 32 [.agg [a,b].toArray] W [] fun W' v=>v=vB r:=
 (c32 (d.view _) (f.view _) Y).ad (fk 0) fun _ _ e=>e
theorem c17 {x0 b x1 e r}(d:Rd W0 [0] [b] x0)(f:Rd W0 [0] [e] x1)(Y:Vm.ze3 x0 x1=some r):Q0 17 [b,e] W0 fun Wf v=>v=vB r:=by
 unfold Vm.ze3 at Y
 refine zaT.of Tryz.func17 O O O O (sr (Nb O (ssr (mv b O (Lw.ln x0 d O (mv e O (Lw.ln x1 f O (Lw.ne O (nl (cn Y (fun Y=>?_) fun Y=>?_))))))))))
 ·exact sr (Nb O (.ret (rt Y (Le.refl _ _))))
 ·refine sk (ssr (Ni O (Cw.block ?_)))
  obtain⟨B,C,Y⟩:=zc4 Y
  refine Cw.loop 11 25 [4,5] (fun m l w=> ∃ h i k,CW.w k=w/\Le [] W0 k/\l=[vB h,vI i]/\Vm.zcz x0 x1 B m h i=some r) _ ⟨false,0,W0,O,Le.refl _ _,O,Y⟩ ?_
  rintro(_ |E) _ _ σ ⟨h,i,k,rfl,A,rfl,Y⟩
  ·cases Y
  unfold Vm.zcz at Y
  have x:=A.o
  refine ssr (mi O (mv b O (Lw.ln x0 (d.ul x) O (Lw.lt O (nl (cn Y (fun Y=>?_) fun Y=>?_))))))
  ·refine sk (Cw.seq (Cw.block (Cw.seq (Cw.draw [] [(0,0),(1,0),(2,0),(3,1),(4,0),(5,0),(6,0),(7,1),(8,0)] mixed (by kernel_rfl) fun D l10=>?_))))
   have a:=x.n l10
   refine Dv b O (Di O ?_)
   obtain⟨F,y,Y⟩:=ob Y
   refine Mw.p O O (fun _=>R.ix (α:=Int) (d.ul a) y O O O) (Mw.q O O (fun _ c=>R.ld O O (zaD ((d.ul a).at_ y).1 O ((d.ul a).at_ y).int c)) (Dv e O (Di O ?_)))
   obtain⟨G,z,Y⟩:=ob Y
   refine Mw.p O O (fun _=>R.ix (α:=Int) (f.ul a) z O O O) (Mw.q O O (fun _ c=>R.ld O O (zaD ((f.ul a).at_ z).1 O ((f.ul a).at_ z).int c)) (Mw.p O O (fun _=>R.ne O O) (Mw.nil (cn Y (fun Y=>?_) fun Y=>?_))))
   ·exact sr (Nb O (.ret (rt Y a)))
   ·exact sk (rg (mi O (Lw.add O (Ni O ((agm) ⟨h,w64 (i+1),D,O,(A.j l10).w,O,Y⟩)))))
  ·refine Cw.exit ?_
   rw[C]at Y
   exact sr (Nb O (.ret (rt Y x)))
theorem p17 {x0 a x1 b r}(d:Rd W K [a] x0)(f:Rd W K [b] x1)(Y:Vm.ze3 x0 x1=some r):Q1 17 [a,b] W [] fun W' v=>v=vB r:=
 (c17 (d.view _) (f.view _) Y).ad (fk 0) fun _ _ e=>e
theorem c101 {x0 b x1 e r}(d:Rd W0 [0] [b] x0)(f:Rd W0 [0] [e] x1)(Y:Vm.zfv x0 x1=some r):Q0 101 [b,e] W0 fun Wf v=>v=vB r:=by
 unfold Vm.zfv at Y
 refine zaT.of Tryz.func101 O O O O (sr (Nb O (ssr (mv b O (Lw.ln x0 d O (mv e O (Lw.ln x1 f O (Lw.ne O (nl (cn Y (fun Y=>?_) fun Y=>?_))))))))))
 ·exact sr (Nb O (.ret (rt Y (Le.refl _ _))))
 ·refine sk (ssr (Ni O (Cw.block ?_)))
  obtain⟨B,C,Y⟩:=zc4 Y
  refine Cw.loop 11 25 [4,5] (fun m l w=> ∃ h i k,CW.w k=w/\Le [] W0 k/\l=[vB h,vI i]/\Vm.zbS x0 x1 B m h i=some r) _ ⟨false,0,W0,O,Le.refl _ _,O,Y⟩ ?_
  rintro(_ |E) _ _ σ ⟨h,i,k,rfl,A,rfl,Y⟩
  ·cases Y
  unfold Vm.zbS at Y
  have x:=A.o
  refine ssr (mi O (mv b O (Lw.ln x0 (d.ul x) O (Lw.lt O (nl (cn Y (fun Y=>?_) fun Y=>?_))))))
  ·refine sk (Cw.seq (Cw.block (Cw.seq (Cw.draw [] [(0,0),(1,0),(2,0),(3,1),(4,0),(5,0),(6,0),(7,1),(8,0)] mixed (by kernel_rfl) fun D l10=>?_))))
   have a:=x.n l10
   refine Dv b O (Di O ?_)
   obtain⟨F,y,Y⟩:=ob Y
   refine Mw.p O O (fun _=>R.ix (α:=Str) (d.ul a) y O O O) (Mw.q O O (fun _ c=>R.ld O O (zaD ((d.ul a).at_ y).1 O ((d.ul a).at_ y).str c)) (Dv e O (Di O ?_)))
   obtain⟨G,z,Y⟩:=ob Y
   refine Mw.p O O (fun _=>R.ix (α:=Str) (f.ul a) z O O O) (Mw.q O O (fun _ c=>R.ld O O (zaD ((f.ul a).at_ z).1 O ((f.ul a).at_ z).str c)) (Mw.p O O (fun _=>R.sne O O) (Mw.nil (cn Y (fun Y=>?_) fun Y=>?_))))
   ·exact sr (Nb O (.ret (rt Y a)))
   ·exact sk (rg (mi O (Lw.add O (Ni O ((agm) ⟨h,w64 (i+1),D,O,(A.j l10).w,O,Y⟩)))))
  ·refine Cw.exit ?_
   rw[C]at Y
   exact sr (Nb O (.ret (rt Y x)))
theorem p101 {x0 a x1 b r}(d:Rd W K [a] x0)(f:Rd W K [b] x1)(Y:Vm.zfv x0 x1=some r):Q1 101 [a,b] W [] fun W' v=>v=vB r:=
 (c101 (d.view _) (f.view _) Y).ad (fk 0) fun _ _ e=>e
theorem c37 {x0 b x1 h r}(z:Rd W0 [0] [b] x0)(G:Rd W0 [0] [h] x1)(Y:Vm.zem x0 x1=some r):Q0 37 [b,h] W0 fun Wf v=>v=vB r:=by
 unfold Vm.zem at Y
 refine zaT.of Tryz.func37 O O O O (sr (Nb O (ssr (mv b O (Lw.ln x0 z O (mv h O (Lw.ln x1 G O (Lw.ne O (nl (cn Y (fun Y=>?_) fun Y=>?_))))))))))
 ·exact sr (Nb O (.ret (rt Y (Le.refl _ _))))
 ·refine sk (ssr (Ni O (Cw.block ?_)))
  obtain⟨M,N,Y⟩:=zc4 Y
  refine Cw.loop 11 41 [4,5] (fun m l w=> ∃ i d k,CW.w k=w/\Le [] W0 k/\l=[vB i,vI d]/\Vm.zcA x0 x1 M m i d=some r) _ ⟨false,0,W0,O,Le.refl _ _,O,Y⟩ ?_
  rintro(_ |X) _ _ σ ⟨i,d,k,rfl,H,rfl,Y⟩
  ·cases Y
  unfold Vm.zcA at Y
  have x:=H.o
  refine ssr (mi O (mv b O (Lw.ln x0 (z.ul x) O (Lw.lt O (nl (cn Y (fun Y=>?_) fun Y=>?_))))))
  ·refine sk (Cw.seq (Cw.block ?_))
   obtain⟨P,Q,Y⟩:=zc4 Y
   refine Cw.join 17 41 [41] (fun l w=> ∃ A y,CW.w y=w/\Le [] k y/\l=[vB A]/\P A=some r) ?_ ?_
   ·rintro _ _ σ ⟨A,y,rfl,I,rfl,Y⟩
    rw[Q]at Y
    have S:=x.n I
    refine cn Y (fun Y=>?_) fun Y=>?_
    ·exact sr (Nb O (.ret (rt Y S)))
    ·exact sk (rg (mi O (Lw.add O (Ni O ((agm) ⟨i,w64 (d+1),y,O,(H.j I).w,O,Y⟩)))))
   ·refine Cw.draw [] [(0,0),(1,0),(2,0),(3,0),(4,1),(5,0),(6,0),(7,0),(8,0),(9,1),(10,0),(11,0),(12,0),(13,0),(14,0),(15,0),(16,1),(17,0),(18,0),(19,0),(20,0),(21,1),(22,2),(23,0),(24,0)] mixed (by kernel_rfl) fun U B=>?_
    have J:=x.n B
    refine Dv b O (Di O ?_)
    obtain⟨Z,C,Y⟩:=ob Y
    have e:=z.ul J
    refine Mw.p O O (fun _=>R.ix (α:=File) e C O O O) (Df O (Mw.q O O (fun _ c=>R.ld O O (zaD (File.at0 (e.at_ C)).1 O (File.at0 (e.at_ C)).str c)) (Dv h O (Di O ?_))))
    obtain⟨aa,D,Y⟩:=ob Y
    have f:=G.ul J
    refine Mw.p O O (fun _=>R.ix (α:=File) f D O O O) (Df O (Mw.q O O (fun _ c=>R.ld O O (zaD (File.at0 (f.at_ D)).1 O (File.at0 (f.at_ D)).str c)) (Mw.p O O (fun _=>R.sne O O) (Db O (bs Y (fun a Y=>?_) fun a Y=>?_)))))
    ·exact dps 12 a O (Mw.p O O (fun _=>R.pk a O (v:=vB true) O) (Mw.nil ((ag) ⟨true,U,O,B,O,Y⟩)))
    ·refine Wp a O (fun _=>R.mv (v:=b) O) (Wp a O (fun _=>R.mv (v:=vI d) O) ?_)
     obtain⟨ac,E,Y⟩:=ob Y
     refine Wp a O (fun _=>R.ix (α:=File) e E O O O) (Wp a O (fun _=>R.fa O) ?_)
     obtain⟨ae,c27,r28⟩:=(File.at1 (e.at_ E)).cell O
     refine Wq a O (fun _ c=>R.ld O O (zaD (File.at1 (e.at_ E)).1 O c27 c)) (Wp a O (fun _=>R.mv (v:=h) O) (Wp a O (fun _=>R.mv (v:=vI d) O) ?_))
     obtain⟨af,F,Y⟩:=ob Y
     refine Wp a O (fun _=>R.ix (α:=File) f F O O O) (Wp a O (fun _=>R.fa O) ?_)
     obtain⟨ah,c32,r33⟩:=(File.at1 (f.at_ F)).cell O
     refine Wq a O (fun _ c=>R.ld O O (zaD (File.at1 (f.at_ F)).1 O c32 c)) ?_
     obtain⟨K,V,Y⟩:=ob Y
     refine Wt a O (T.call O (p101 r28 r33 V)) ?_
     rintro _ _ ⟨W,rfl,L,rfl⟩
     exact m0 L fun ai=>Wp a O (fun _=>R.not O) (Mw.p O O (fun _=>R.pk a O (v:=vB (!K)) O) (Mw.nil ((ag) ⟨(!K),W,O,(B.j L).w,O,Y⟩)))
  ·refine Cw.exit ?_
   rw[N]at Y
   exact sr (Nb O (.ret (rt Y x)))
theorem p37 {x0 a x1 b r}(d:Rd W K [a] x0)(f:Rd W K [b] x1)(Y:Vm.zem x0 x1=some r):Q1 37 [a,b] W [] fun W' v=>v=vB r:=
 (c37 (d.view _) (f.view _) Y).ad (fk 0) fun _ _ e=>e
theorem c71 {x0 y z x1 f r}(J:Rd W0 [0] [y,z] x0)(h:Rd W0 [0] [f] x1)(L:Gl 0 W0 [0])(Y:Vm.zdX x0 x1=some r):Q0 71 [.agg [y,z].toArray,f] W0 fun Wf v=>v=vB r:=by
 unfold Vm.zdX at Y
 obtain⟨U,V,A,B,C⟩:=Repo.split J
 simp only[List.cons.injEq,and_true,true_and]at A
 obtain⟨rfl,rfl⟩:=A
 refine zaT.of Tryz.func71 O O O O (sr (bo 2 O fun W X M D=>?_))
 have b:=M.o
 refine Nb O (ssr (la D (ca Y (fun _=>p32 (Repo.rd (K:=[0]) x0.Commits x0.Heads (B.ul b) (C.ul b)) (L.ul b)) fun Z E Y F=>?_)))
 have i:=b.n F
 refine Lw.r O (R.not O) (nl (cn Y (fun Y=>?_) fun Y=>?_))
 ·exact sr (Nb O (.ret (rt Y i)))
 ·refine sk (ssr (mv f O (Lw.ln x1 (h.ul i) O (mi O (nl (Cw.block ?_))))))
  obtain⟨N,P,Y⟩:=zc4 Y
  refine Cw.loop 12 20 [4,6,12] (fun m l w=> ∃ d e G k,CW.w k=w/\Le [] E k/\l=[vB d,G,vI e]/\Vm.zbw x0 x1 N m d e=some r) _ ⟨false,0,undef,E,O,Le.refl _ _,O,Y⟩ ?_
  rintro(_ |aa) _ _ σ ⟨d,e,G,k,rfl,x,rfl,Y⟩
  ·cases Y
  unfold Vm.zbw at Y
  have a:=i.n x
  refine sr (Lw.lt O (nl (Cw.seq (cn Y (fun Y=>?_) fun Y=>?_))))
  ·refine sk (Cw.seq (Cw.block (sr ?_)))
   obtain⟨Q,H,Y⟩:=ob Y
   refine Lw.r O (R.ix (α:=Int) (h.ul a) H O O O) (Lw.r O (R.ld O O ((h.ul a).at_ H).int) (Ni O (sr (la ((D.up F).up x) (mi O (ca Y (fun _=>p98 (Repo.rd (K:=[0]) x0.Commits x0.Heads (B.ul a) (C.ul a))) fun ac S Y I=>?_))))))
   have T:=a.n I
   refine Lw.r O (R.not O) (nl (cn Y (fun Y=>?_) fun Y=>?_))
   ·exact sr (Nb O (.ret (rt Y T)))
   ·exact sk (rg (Lw.add O (mi O (nl ((agm) ⟨d,w64 (e+1),vI Q,S,O,(x.j I).w,O,Y⟩)))))
  ·refine Cw.exit ?_
   rw[P]at Y
   exact sr (Nb O (.ret (rt Y a)))
theorem p71 {x0 a b x1 d r}(f:Rd W K [a,b] x0)(h:Rd W K [d] x1)(i:Gl 0 W K)(Y:Vm.zdX x0 x1=some r):Q1 71 [.agg [a,b].toArray,d] W [] fun W' v=>v=vB r:=
 (c71 (f.view _) (h.view _) (i.view _) Y).ad (fk 0) fun _ _ e=>e
end Go.Sx
