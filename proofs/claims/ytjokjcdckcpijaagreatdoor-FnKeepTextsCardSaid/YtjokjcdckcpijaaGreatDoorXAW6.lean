/- Walks: each function answers as its model, printed by a program of ours. Conditions: the arguments read as they are given. -/
import Derived.Test.YtjokjcdckcpijaaGreatDoorXATs
import Derived.Test.YtjokjcdckcpijaaGreatDoorXAM0
import Derived.Test.YtjokjcdckcpijaaGreatDoorXAW1
import Derived.Test.YtjokjcdckcpijaaGreatDoorXAW3
import Derived.Test.YtjokjcdckcpijaaGreatDoorXAW5
import Derived.Test.YtjokjcdckcpijaaGreatDoorXAE
namespace Go.Sx
open Go Go.Proofs Go.Vm Rp
set_option linter.unusedVariables false
set_option linter.unusedSimpArgs false
variable {W W0:CW}{K:List Nat}
theorem c39 {x0 r}(Y:Vm.zdv x0=some r):Q0 39 [.int .u8 (UInt8.toNat x0:Int)] W0 fun Wf v=>v=vB r:=by
 unfold Vm.zdv at Y
 refine zap.of Tryz.func39 O O O O (sr (Nb O ?_))
 obtain⟨i,k,Y⟩:=za1 Y
 refine Cw.join 3 16 [2] (fun l w=> ∃ f h,CW.w h=w/\Le [] W0 h/\l=[vB f]/\i f=some r) ?_ ?_
 ·rintro _ _ σ ⟨f,h,rfl,x,rfl,Y⟩
  rw[k]at Y
  have y:=x.o
  exact .ret (rt Y y)
 ·refine rg (mv (.int .u8 (UInt8.toNat x0:Int)) O (Lw.ge O (mb O (bs Y (fun b Y=>?_) fun b Y=>?_))))
  ·refine wak 2 b (mv (.int .u8 (UInt8.toNat x0:Int)) O (Lw.le O (Pb b O (mb O (bs Y (fun a Y=>?_) fun a Y=>?_)))))
   ·exact psk 3 a O (puk 2 O (psk 1 a O (Pb a O (Nb O ((ag) ⟨true,W0,O,Le.refl _ _,O,Y⟩)))))
   ·refine wak 3 a (mv (.int .u8 (UInt8.toNat x0:Int)) O (Lw.ge O (mb O (bs Y (fun d Y=>?_) fun d Y=>?_))))
    ·exact wak 2 d (mv (.int .u8 (UInt8.toNat x0:Int)) O (Lw.le O (wak 1 a (Pb d O (Pb a O (Nb O ((ag) ⟨decide (((UInt8.toNat x0:Int):Int)<=(57:Int)),W0,O,Le.refl _ _,O,Y⟩)))))))
    ·exact psk 2 d O (wak 1 a (Pb d O (Pb a O (Nb O ((ag) ⟨false,W0,O,Le.refl _ _,O,Y⟩)))))
  ·refine psk 2 b O (Pb b O (mb O (wak 3 O (mv (.int .u8 (UInt8.toNat x0:Int)) O (Lw.ge O (mb O (bs Y (fun e Y=>?_) fun e Y=>?_)))))))
   ·exact wak 2 e (mv (.int .u8 (UInt8.toNat x0:Int)) O (Lw.le O (wak 1 O (Pb e O (Pb O O (Nb O ((ag) ⟨decide (((UInt8.toNat x0:Int):Int)<=(57:Int)),W0,O,Le.refl _ _,O,Y⟩)))))))
   ·exact psk 2 e O (wak 1 O (Pb e O (Pb O O (Nb O ((ag) ⟨false,W0,O,Le.refl _ _,O,Y⟩)))))
theorem p39 {x0 r}(Y:Vm.zdv x0=some r):Q1 39 [.int .u8 (UInt8.toNat x0:Int)] W [] fun W' v=>v=vB r:=
 (c39 (W0:=W.view [] []) Y).ad (fk 0) fun _ _ e=>e
theorem c26 {x0 r}(Y:Vm.zdd x0=some r):Q0 26 [vS x0] W0 fun Wf v=>v=vB r:=by
 unfold Vm.zdd at Y
 refine zap.of Tryz.func26 O O O O (sr (Nb O (ssr (ms O (Lw.r O (R.lenS O) (ca Y (fun _=>p23) fun D e Y x=>?_))))))
 have f:=x.o
 refine Lw.r O (R.not O) (nl (cn Y (fun Y=>?_) fun Y=>?_))
 ·exact sr (Nb O (.ret (rt Y f)))
 ·refine sk (ssr (Ni O (Cw.block ?_)))
  obtain⟨y,z,Y⟩:=za1 Y
  refine Cw.loop 8 18 [2,3] (fun m l w=> ∃ a b d,CW.w d=w/\Le [] e d/\l=[vB a,vI b]/\Vm.zbZ x0 y m a b=some r) _ ⟨false,0,e,O,Le.refl _ _,O,Y⟩ ?_
  rintro(_ |E) _ _ σ ⟨a,b,d,rfl,h,rfl,Y⟩
  ·cases Y
  unfold Vm.zbZ at Y
  have i:=f.n h
  refine ssr (mi O (ms O (Lw.r O (R.lenS O) (Lw.lt O (nl (cn Y (fun Y=>?_) fun Y=>?_))))))
  ·refine sk (Cw.seq (Cw.block (sr (ms O (mi O ?_)))))
   obtain⟨F,A,Y⟩:=ob Y
   refine Lw.r O (R.chm A O O) (ca Y (fun _=>p39) fun G B Y k=>?_)
   have C:=i.n k
   refine Lw.r O (R.not O) (nl (cn Y (fun Y=>?_) fun Y=>?_))
   ·exact sr (Nb O (.ret (rt Y C)))
   ·exact sk (rg (mi O (Lw.add O (Ni O ((agm) ⟨a,w64 (b+1),B,O,(h.j k).w,O,Y⟩)))))
  ·refine Cw.exit ?_
   rw[z]at Y
   exact sr (Nb O (.ret (rt Y i)))
theorem p26 {x0 r}(Y:Vm.zdd x0=some r):Q1 26 [vS x0] W [] fun W' v=>v=vB r:=
 (c26 (W0:=W.view [] []) Y).ad (fk 0) fun _ _ e=>e
theorem c33 {x0 r}(Y:Vm.zeB x0=some r):Q0 33 [vS x0] W0 fun Wf v=>v=vB r:=by
 unfold Vm.zeB at Y
 refine zap.of Tryz.func33 O O O O (sr (Nb O (ssr (ms O (Lw.r O (R.lenS O) (Lw.gt O (nl (cn Y (fun Y=>?_) fun Y=>?_))))))))
 ·exact sr (Nb O (.ret (rt Y (Le.refl _ _))))
 ·refine sk (ssr (Ni O (Cw.block ?_)))
  obtain⟨x,y,Y⟩:=za1 Y
  refine Cw.loop 7 22 [2,3] (fun m l w=> ∃ d e a,CW.w a=w/\Le [] W0 a/\l=[vB d,vI e]/\Vm.zb0 x0 x m d e=some r) _ ⟨false,0,W0,O,Le.refl _ _,O,Y⟩ ?_
  rintro(_ |F) _ _ σ ⟨d,e,a,rfl,i,rfl,Y⟩
  ·cases Y
  unfold Vm.zb0 at Y
  have k:=i.o
  refine ssr (mi O (ms O (Lw.r O (R.lenS O) (Lw.lt O (nl (cn Y (fun Y=>?_) fun Y=>?_))))))
  ·refine sk (Cw.seq (Cw.block ?_))
   obtain⟨z,A,Y⟩:=za1 Y
   refine Cw.join 13 22 [22] (fun l w=> ∃ h f,CW.w f=w/\Le [] a f/\l=[vB h]/\z h=some r) ?_ ?_
   ·rintro _ _ σ ⟨h,f,rfl,l10,rfl,Y⟩
    rw[A]at Y
    have B:=k.n l10
    refine cn Y (fun Y=>?_) fun Y=>?_
    ·exact sr (Nb O (.ret (rt Y B)))
    ·exact sk (rg (mi O (Lw.add O (Ni O ((agm) ⟨d,w64 (e+1),f,O,(i.j l10).w,O,Y⟩)))))
   ·refine rg (ms O (mi O ?_))
    obtain⟨G,C,Y⟩:=ob Y
    refine Lw.r O (R.chm C O O) (Lw.lt O (mb O (bs Y (fun b Y=>?_) fun b Y=>?_)))
    ·exact psk 4 b O (Pb b O (nl ((ag) ⟨true,a,O,Le.refl _ _,O,Y⟩)))
    ·refine wak 4 b (ms O (mi O ?_))
     obtain⟨D,E,Y⟩:=ob Y
     exact Lw.r O (R.chm E O O) (Lw.gt O (Pb b O (nl ((ag) ⟨decide ((126:Int)< ((UInt8.toNat D:Int):Int)),a,O,Le.refl _ _,O,Y⟩))))
  ·refine Cw.exit ?_
   rw[y]at Y
   exact sr (Nb O (.ret (rt Y k)))
theorem p33 {x0 r}(Y:Vm.zeB x0=some r):Q1 33 [vS x0] W [] fun W' v=>v=vB r:=
 (c33 (W0:=W.view [] []) Y).ad (fk 0) fun _ _ e=>e
theorem c19 {x0 a r}(b:Rd W0 [0] [a] x0)(Y:Vm.zbv x0=some r):Q0 19 [a] W0 fun Wf v=>v=vB r:=by
 unfold Vm.zbv at Y
 refine zap.of Tryz.func19 O O O O (sr (Nb O (ssr (mv a O (Lw.ln x0 b O (Lw.gt O (nl (cn Y (fun Y=>?_) fun Y=>?_))))))))
 ·exact sr (Nb O (.ret (rt Y (Le.refl _ _))))
 ·refine sk (ssr (mv a O (Lw.ln x0 b O (mi O (nl (Cw.block ?_))))))
  obtain⟨z,A,Y⟩:=za1 Y
  refine Cw.loop 10 17 [2,4,10] (fun m l w=> ∃ d e i h,CW.w h=w/\Le [] W0 h/\l=[vB d,i,vI e]/\Vm.zb1 x0 z m d e=some r) _ ⟨false,0,undef,W0,O,Le.refl _ _,O,Y⟩ ?_
  rintro(_ |E) _ _ σ ⟨d,e,i,h,rfl,k,rfl,Y⟩
  ·cases Y
  unfold Vm.zb1 at Y
  have f:=k.o
  refine sr (Lw.lt O (nl (Cw.seq (cn Y (fun Y=>?_) fun Y=>?_))))
  ·refine sk (Cw.seq (Cw.block (sr ?_)))
   obtain⟨B,x,Y⟩:=ob Y
   refine Lw.r O (R.ix (α:=Str) (b.ul f) x O O O) (Lw.r O (R.ld O O ((b.ul f).at_ x).str) (Ns O (sr (ms O (ca Y (fun _=>p33) fun F C Y y=>?_)))))
   have D:=f.n y
   refine Lw.r O (R.not O) (nl (cn Y (fun Y=>?_) fun Y=>?_))
   ·exact sr (Nb O (.ret (rt Y D)))
   ·exact sk (rg (Lw.add O (mi O (nl ((agm) ⟨d,w64 (e+1),vS B,C,O,(k.j y).w,O,Y⟩)))))
  ·refine Cw.exit ?_
   rw[A]at Y
   exact sr (Nb O (.ret (rt Y f)))
theorem p19 {x0 a r}(b:Rd W K [a] x0)(Y:Vm.zbv x0=some r):Q1 19 [a] W [] fun W' v=>v=vB r:=
 (c19 (b.view _) Y).ad (fk 0) fun _ _ e=>e
theorem c40 {x0 r}(C:Gl 0 W0 [0])(Y:Vm.zdC x0=some r):Q0 40 [vS x0] W0 fun Wf v=>v=vB r:=by
 unfold Vm.zdC at Y
 refine zap.of Tryz.func40 O O O O (sr (Nb O (sr (ms O (cr Y (fun _=>p52 (k0:=2) C) ?_)))))
 rintro f h k Y D ⟨_,rfl,a⟩
 have x:=D.o
 refine Nv h O (ssr (mv h O (Lw.ln f a.rd O (Lw.gt O (nl (cn Y (fun Y=>?_) fun Y=>?_))))))
 ·exact sr (Nb O (.ret (rt Y x)))
 ·refine sk (ssr (mv h O (Lw.ln f a.rd O (mi O (nl (Cw.block ?_))))))
  obtain⟨E,F,Y⟩:=za1 Y
  refine Cw.loop 13 20 [2,5,13] (fun m l w=> ∃ b d y i,CW.w i=w/\Le [] k i/\l=[vB b,y,vI d]/\Vm.zb2 f E m b d=some r) _ ⟨false,0,undef,k,O,Le.refl _ _,O,Y⟩ ?_
  rintro(_ |J) _ _ σ ⟨b,d,y,i,rfl,e,rfl,Y⟩
  ·cases Y
  unfold Vm.zb2 at Y
  have z:=x.n e
  refine sr (Lw.lt O (nl (Cw.seq (cn Y (fun Y=>?_) fun Y=>?_))))
  ·refine sk (Cw.seq (Cw.block (sr ?_)))
   obtain⟨G,A,Y⟩:=ob Y
   refine Lw.r O (R.ix (α:=Str) (a.up e).rd A O O O) (Lw.r O (R.ld O O ((a.up e).rd.at_ A).str) (Ns O (sr (ms O (ca Y (fun _=>p26) fun K H Y B=>?_)))))
   have I:=z.n B
   refine Lw.r O (R.not O) (nl (cn Y (fun Y=>?_) fun Y=>?_))
   ·exact sr (Nb O (.ret (rt Y I)))
   ·exact sk (rg (Lw.add O (mi O (nl ((agm) ⟨b,w64 (d+1),vS G,H,O,(e.j B).w,O,Y⟩)))))
  ·refine Cw.exit ?_
   rw[F]at Y
   exact sr (Nb O (.ret (rt Y z)))
theorem p40 {x0 r}(a:Gl 0 W K)(Y:Vm.zdC x0=some r):Q1 40 [vS x0] W [] fun W' v=>v=vB r:=
 (c40 (a.view _) Y).ad (fk 0) fun _ _ e=>e
theorem c41 {x0 x1 r}(h:Gl 0 W0 [0])(Y:Vm.zcd x0 x1=some r):Q0 41 [vS x0,vS x1] W0 fun Wf v=>v=vB r:=by
 unfold Vm.zcd at Y
 refine zap.of Tryz.func41 O O O O (sr (Nb O ?_))
 obtain⟨k,x,Y⟩:=za1 Y
 refine Cw.join 5 16 [4] (fun l w=> ∃ e f,CW.w f=w/\Le [] W0 f/\l=[vB e]/\k e=some r) ?_ ?_
 ·rintro _ _ σ ⟨e,f,rfl,y,rfl,Y⟩
  rw[x]at Y
  have z:=y.o
  exact .ret (rt Y z)
 ·refine rg (ms O (ca Y (fun _=>p40 h) fun H A Y d=>?_))
  have B:=d.o
  refine mb O (bs Y (fun a Y=>?_) fun a Y=>?_)
  ·refine wak 2 a (ms O (ca Y (fun _=>p40 (h.ul B)) fun I C Y i=>Pb a O (mb O (bs Y (fun b Y=>?_) fun b Y=>?_))))
   ·refine wak 4 b (ms O (ms O ?_))
    obtain⟨J,D,Y⟩:=ob Y
    exact Lw.r O (R.sad D O O) (ca Y (fun _=>p53) fun E F Y G=>Pb b O (Nb O ((ag) ⟨E,F,O,((d.j i).j G).w,O,Y⟩)))
   ·exact psk 4 b O (Pb b O (Nb O ((ag) ⟨false,C,O,(d.j i).w,O,Y⟩)))
  ·exact psk 2 a O (Pb a O (mb O (psk 4 O O (Pb O O (Nb O ((ag) ⟨false,A,O,d,O,Y⟩))))))
theorem p41 {x0 x1 r}(a:Gl 0 W K)(Y:Vm.zcd x0 x1=some r):Q1 41 [vS x0,vS x1] W [] fun W' v=>v=vB r:=
 (c41 (a.view _) Y).ad (fk 0) fun _ _ e=>e
theorem c27 {x0 h r}(f:Rd W0 [0] [h] x0)(ac:Gl 0 W0 [0])(Y:Vm.zeb x0=some r):Q0 27 [h] W0 fun Wf v=>v=vB r:=by
 unfold Vm.zeb at Y
 refine zap.of Tryz.func27 O O O O (sr (Nb O (ssr (mv h O (Lw.ln x0 f O (Lw.gt O (nl (cn Y (fun Y=>?_) fun Y=>?_))))))))
 ·exact sr (Nb O (.ret (rt Y (Le.refl _ _))))
 ·refine sk (ssr (mv h O (Lw.ln x0 f O (mi O (nl (Cw.block ?_))))))
  obtain⟨K8,av,Y⟩:=za1 Y
  refine Cw.loop 12 56 [2,3,4,6,12] (fun m l w=> ∃ B d j3 j4 J K,CW.w K=w/\Le [2,3] W0 K/\l=[vB B,j3,j4,J,vI d]/\Vm.zb3 x0 K8 m B d=some r) _ ⟨false,0,undef,undef,undef,W0,O,Le.refl _ _,O,Y⟩ ?_
  rintro(_ |m9) _ _ σ ⟨B,d,j3,j4,J,K,rfl,l7,rfl,Y⟩
  ·cases Y
  unfold Vm.zb3 at Y
  have i:=l7.s
  refine sr (Lw.lt O (nl (Cw.seq (cn Y (fun Y=>?_) fun Y=>?_))))
  ·refine sk (Cw.seq (Cw.block (sr (mi O ?_))))
   obtain⟨k,ai,Y⟩:=ob Y
   refine Lw.r O (R.ix (α:=File) (f.ul i) ai O O O) ?_
   obtain⟨x15,c16,_,r17⟩:=((f.ul i).at_ ai).cells
   obtain⟨bi,rfl,r19⟩:=File.split r17
   refine Lw.r O (R.lda c16 O O) (al 2 [vS ([]:Str), .slice none 0 0] fun aw bj aj ax=>?_)
   have C:=aj.o
   refine Gi O (sta ax (zaa O (zaa r19.oc zaw)) fun ay ak am=>?_)
   have D:=ak.s
   refine nl (Cw.seq ?_)
   obtain⟨az,a0,Y⟩:=za1 Y
   refine Cw.join 17 41 [41] (fun l w=> ∃ L z,CW.w z=w/\Le [] ay z/\l=[vB L]/\az L=some r) ?_ ?_
   ·rintro _ _ σ ⟨L,z,rfl,M,rfl,Y⟩
    rw[a0]at Y
    have E:=((i.trans C).trans D).n M
    refine cn Y (fun Y=>?_) fun Y=>?_
    ·exact sr (Nb O (.ret (rt Y E)))
    ·refine sk (sr (mv h O (mi O ?_)))
     obtain⟨an,ao,Y⟩:=ob Y
     have r34:=(f.ul E).cutV ao
     refine Lw.r O (R.sl (f.ul E) ao O (.inl ⟨O,O⟩) (.inr O)) (Lw.ln an r34 O (mi O (nl (Cw.block ?_))))
     obtain⟨a1,a2,Y⟩:=za1 Y
     refine Cw.loop 46 55 [2,6,46] (fun m l w=> ∃ A F N G,CW.w G=w/\Le [3] z G/\l=[vB A,N,vI F]/\Vm.zbl k an a1 m A F=some r) _ ⟨B,0,J,z,O,Le.refl _ _,O,Y⟩ ?_
     rintro(_ |bk) _ _ σ ⟨A,F,N,G,rfl,H,rfl,Y⟩
     ·cases Y
     unfold Vm.zbl at Y
     have P:=H.s
     refine sr (Lw.lt O (nl (Cw.seq (cn Y (fun Y=>?_) fun Y=>?_))))
     ·refine sk (Cw.seq (Cw.block (sr ?_)))
      obtain⟨bl,ap,Y⟩:=ob Y
      refine Lw.r O (R.ix (α:=File) (r34.ul P) ap O O O) ?_
      obtain⟨x47,c48,_,r49⟩:=((r34.ul P).at_ ap).cells
      obtain⟨bm,rfl,r51⟩:=File.split r49
      refine Lw.r O (R.lda c48 O O) (al 3 [vS ([]:Str), .slice none 0 0] fun a3 bn Q a4=>?_)
      have a5:=(E.trans P).n Q
      refine sta a4 (zaa O (zaa r51.oc zaw)) fun bp S a6=>?_
      have aq:=a5.t S
      refine nl (sr (fl a6 O (fl ((((am.up M).up H).up Q).up S) O (ca Y (fun _=>p41 (ac.ul aq)) fun bq a7 Y ar=>?_))))
      have a8:=aq.n ar
      refine nl (cn Y (fun Y=>?_) fun Y=>?_)
      ·exact sr (Nb O (.ret (rt Y a8)))
      ·exact sk (rg (Lw.add O (mi O (nl ((agm) ⟨A,w64 (F+1),ptr (bx a3),a7,O,(((H.j Q).j S).j ar).w,O,Y⟩)))))
     ·refine Cw.exit ?_
      rw[a2]at Y
      exact rg (Lw.add O (mi O (nl ((agm) ⟨A,w64 (d+1),vI d,ptr (bx aw),N,G,O,((((l7.j aj).j ak).j M).j H).w,O,Y⟩))))
   ·refine Cw.draw [] [(0,0),(1,1),(2,2),(3,0),(4,0),(5,0),(6,1),(7,2),(8,0),(9,0),(10,0),(11,0),(12,0),(13,0),(14,0),(15,0),(16,0),(17,0),(18,0),(19,1),(20,0),(21,1),(22,0),(23,0),(24,0)] mixed (by kernel_rfl) fun br x=>?_
    have U:=x.o
    have V:=am.up x
    refine Dfl V O O O ?_
    obtain⟨bu,a9,Y⟩:=ob Y
    refine Mw.t O O (T.call O (p19 (r19.ul ((C.trans D).trans U)) a9)) ?_
    rintro _ _ ⟨ba,rfl,y,rfl⟩
    have bb:=(((i.trans C).trans D).trans U).n y
    refine m0 y fun bc=>Mw.p O O (fun _=>R.not O) (Db O (bs Y (fun e Y=>?_) fun e Y=>?_))
    ·exact dps 4 e O (Mw.p O O (fun _=>R.pk e O (v:=vB true) O) (Db O (dps 3 O O (dpu 9 O (dps 1 O O (Mw.p O O (fun _=>R.pk O O (v:=vB true) O) (Mw.nil ((ag) ⟨true,ba,O,(x.j y).w,O,Y⟩))))))))
    ·refine Wp e O (fun _=>R.fa O) (Wq e O (fun _ c=>R.ld (v:=vS k.Path) O O (V.clc O O c)) ?_)
     obtain⟨be,bg,Y⟩:=ob Y
     refine Wt e O (T.call O (p40 (ac.ul bb) bg)) ?_
     rintro _ _ ⟨W,rfl,I,rfl⟩
     refine mc bc I fun bv=>Wp e O (fun _=>R.not O) (Mw.p O O (fun _=>R.pk e O (v:=vB (!be)) O) (Db O (bs Y (fun b Y=>?_) fun b Y=>?_)))
     ·exact dps 3 b O (dpu 9 O (dps 1 b O (Mw.p O O (fun _=>R.pk b O (v:=vB true) O) (Mw.nil ((ag) ⟨true,W,O,((x.j y).j I).w,O,Y⟩)))))
     ·refine Wp b O (fun _=>R.mv (v:=vI d) O) (Wp b O (fun _=>R.gt O O) (Wp b O (fun _=>R.mv (v:=vB (decide (0< (d:Int)))) O) (bs Y (fun a Y=>?_) fun a Y=>?_)))
      ·refine Wp a O (fun _=>R.mv (v:=h) O) (Wp a O (fun _=>R.mv (v:=vI d) O) (Wp a O (fun _=>R.sub O O) ?_))
       obtain⟨X,Z,Y⟩:=ob Y
       have aa:=f.ul (((i.trans C).trans D).trans U)
       exact Wp a O (fun _=>R.ix (α:=File) aa Z O O O) (Wp a O (fun _=>R.fa O) (Wq a O (fun _ c=>R.ld O O (zam (File.at0 (aa.at_ Z)).1 O (File.at0 (aa.at_ Z)).str c)) (Wp a O (fun _=>R.fa O) (Wq a O (fun _ c=>R.ld (v:=vS k.Path) O O (V.clc O O c)) (Wp a O (fun _=>R.sge O O) (Wp b O (fun _=>R.pk a O (v:=vB (!Op.bytesLess X.Path k.Path)) O) (Mw.p O O (fun _=>R.pk b O (v:=vB (!Op.bytesLess X.Path k.Path)) O) (Mw.nil ((ag) ⟨(!Op.bytesLess X.Path k.Path),W,O,((x.j y).j I).w,O,Y⟩)))))))))
      ·exact dps 9 a O (Wp b O (fun _=>R.pk a O (v:=vB false) O) (Mw.p O O (fun _=>R.pk b O (v:=vB false) O) (Mw.nil ((ag) ⟨false,W,O,((x.j y).j I).w,O,Y⟩))))
  ·refine Cw.exit ?_
   rw[av]at Y
   exact sr (Nb O (.ret (rt Y i)))
theorem p27 {x0 a r}(b:Rd W K [a] x0)(d:Gl 0 W K)(Y:Vm.zeb x0=some r):Q1 27 [a] W [] fun W' v=>v=vB r:=
 (c27 (b.view _) (d.view _) Y).ad (fk 0) fun _ _ e=>e
theorem c42 {x0 a b x1 r}(f:Rd W0 [0] [a,b] x0)(Y:Vm.zcl x0 x1=some r):Q0 42 [.agg [a,b].toArray,vI x1] W0 fun Wf v=>v=vB r:=by
 unfold Vm.zcl at Y
 obtain⟨z,A,d,h,B⟩:=Repo.split f
 simp only[List.cons.injEq,and_true,true_and]at d
 obtain⟨rfl,rfl⟩:=d
 refine zap.of Tryz.func42 O O O O (sr (bo 2 O fun C D i k=>?_))
 have e:=i.o
 refine Nb O (sr (mi O (fl k O (Lw.ln x0.Commits (h.ul e) O (Lw.sub O (ca Y (fun _=>p23) fun E F Y x=>?_))))))
 have y:=e.n x
 exact Nb O (.ret (rt Y y))
theorem p42 {x0 a b x1 r}(d:Rd W K [a,b] x0)(Y:Vm.zcl x0 x1=some r):Q1 42 [.agg [a,b].toArray,vI x1] W [] fun W' v=>v=vB r:=
 (c42 (d.view _) Y).ad (fk 0) fun _ _ e=>e
theorem c28 {x0 E F x1 k r}(h0:Rd W0 [0] [E,F] x0)(f:Rd W0 [0] [k] x1)(Y:Vm.zd2 x0 x1=some r):Q0 28 [.agg [E,F].toArray,k] W0 fun Wf v=>v=vB r:=by
 unfold Vm.zd2 at Y
 obtain⟨a3,a4,S,af,ah⟩:=Repo.split h0
 simp only[List.cons.injEq,and_true,true_and]at S
 obtain⟨rfl,rfl⟩:=S
 refine zap.of Tryz.func28 O O O O (sr (bo 2 O fun g1 U l1 b1=>?_))
 have y:=l1.o
 refine Nb O (ssr (mv k O (Lw.ln x1 (f.ul y) O (Lw.gt O (nl (cn Y (fun Y=>?_) fun Y=>?_))))))
 ·exact sr (Nb O (.ret (rt Y y)))
 ·refine sk (ssr (mv k O (Lw.ln x1 (f.ul y) O (mi O (nl (Cw.block ?_))))))
  obtain⟨ak,am,Y⟩:=za1 Y
  refine Cw.loop 12 43 [4,5,6,12] (fun m l w=> ∃ z e V W G,CW.w G=w/\Le [3] U G/\l=[vB z,V,W,vI e]/\Vm.zbE x0 x1 ak m z e=some r) _ ⟨false,0,undef,undef,U,O,Le.refl _ _,O,Y⟩ ?_
  rintro(_ |a6) _ _ σ ⟨z,e,V,W,G,rfl,H,rfl,Y⟩
  ·cases Y
  unfold Vm.zbE at Y
  have A:=y.t H
  refine sr (Lw.lt O (nl (Cw.seq (cn Y (fun Y=>?_) fun Y=>?_))))
  ·refine sk (Cw.seq (Cw.block (sr (mi O ?_))))
   obtain⟨x,X,Y⟩:=ob Y
   refine Lw.r O (R.ix (α:=Head) (f.ul A) X O O O) ?_
   obtain⟨x18,c19,_,r20⟩:=((f.ul A).at_ X).cells
   obtain rfl:=Head.split r20
   refine Lw.r O (R.lda c19 O O) (al 3 [vS ([]:Str),vI 0] fun an a7 I ao=>?_)
   have ap:=A.n I
   refine Gi O (sta ao (zaa O (zaa O zaw)) fun aq J ar=>?_)
   have Z:=ap.t J
   refine nl ?_
   obtain⟨au,av,Y⟩:=za1 Y
   refine Cw.join 17 42 [42] (fun l w=> ∃ L B,CW.w B=w/\Le [] aq B/\l=[vB L]/\au L=some r) ?_ ?_
   ·rintro _ _ σ ⟨L,B,rfl,aa,rfl,Y⟩
    rw[av]at Y
    have aw:=Z.n aa
    refine cn Y (fun Y=>?_) fun Y=>?_
    ·exact sr (Nb O (.ret (rt Y aw)))
    ·exact sk (rg (Lw.add O (mi O (nl ((agm) ⟨z,w64 (e+1),vI e,ptr (bx an),B,O,(((H.j I).j J).j aa).w,O,Y⟩)))))
   ·refine Cw.draw [] [(0,0),(1,1),(2,2),(3,0),(4,0),(5,1),(6,0),(7,1),(8,2),(9,0),(10,0),(11,0),(12,0),(13,0),(14,0),(15,0),(16,0),(17,0),(18,0),(19,0),(20,1),(21,0),(22,1),(23,0),(24,0),(25,0)] mixed (by kernel_rfl) fun a8 h=>?_
    have C:=Z.n h
    have M:=ar.up h
    refine Dfl M O O O ?_
    obtain⟨a9,ax,Y⟩:=ob Y
    refine Mw.t O O (T.call O (p26 ax)) ?_
    rintro _ _ ⟨ay,rfl,i,rfl⟩
    have ac:=C.n i
    refine m0 i fun az=>Mw.p O O (fun _=>R.not O) (Db O (bs Y (fun d Y=>?_) fun d Y=>?_))
    ·exact dps 5 d O (Mw.p O O (fun _=>R.pk d O (v:=vB true) O) (Db O (dps 3 O O (dpu 9 O (dps 1 O O (Mw.p O O (fun _=>R.pk O O (v:=vB true) O) (Mw.nil ((ag) ⟨true,ay,O,(h.j i).w,O,Y⟩))))))))
    ·refine Wq d O (fun _ c=>R.lda (cs:=[E,F]) (((((b1.up H).up I).up J).up h).clcs O c) O O) (Wp d O (fun _=>R.fa O) (Wq d O (fun _ c=>R.ld (v:=vI x.At) O O (M.clc O O c)) ?_))
     obtain⟨a0,a1,Y⟩:=ob Y
     refine Wt d O (T.call O (p42 (Repo.rd (K:=[0]) x0.Commits x0.Heads (af.ul ac) (ah.ul ac)) a1)) ?_
     rintro _ _ ⟨N,rfl,D,rfl⟩
     refine mc az D fun ba=>Wp d O (fun _=>R.not O) (Mw.p O O (fun _=>R.pk d O (v:=vB (!a0)) O) (Db O (bs Y (fun b Y=>?_) fun b Y=>?_)))
     ·exact dps 3 b O (dpu 9 O (dps 1 b O (Mw.p O O (fun _=>R.pk b O (v:=vB true) O) (Mw.nil ((ag) ⟨true,N,O,((h.j i).j D).w,O,Y⟩)))))
     ·refine Wp b O (fun _=>R.mv (v:=vI e) O) (Wp b O (fun _=>R.gt O O) (Wp b O (fun _=>R.mv (v:=vB (decide (0< (e:Int)))) O) (bs Y (fun a Y=>?_) fun a Y=>?_)))
      ·refine Wp a O (fun _=>R.mv (v:=k) O) (Wp a O (fun _=>R.mv (v:=vI e) O) (Wp a O (fun _=>R.sub O O) ?_))
       obtain⟨P,Q,Y⟩:=ob Y
       exact Wp a O (fun _=>R.ix (α:=Head) (f.ul C) Q O O O) (Wp a O (fun _=>R.fa O) (Wq a O (fun _ c=>R.ld O O (zam (Head.at0 ((f.ul C).at_ Q)).1 O (Head.at0 ((f.ul C).at_ Q)).str c)) (Wp a O (fun _=>R.fa O) (Wq a O (fun _ c=>R.ld (v:=vS x.Name) O O (M.clc O O c)) (Wp a O (fun _=>R.sge O O) (Wp b O (fun _=>R.pk a O (v:=vB (!Op.bytesLess P.Name x.Name)) O) (Mw.p O O (fun _=>R.pk b O (v:=vB (!Op.bytesLess P.Name x.Name)) O) (Mw.nil ((ag) ⟨(!Op.bytesLess P.Name x.Name),N,O,((h.j i).j D).w,O,Y⟩)))))))))
      ·exact dps 9 a O (Wp b O (fun _=>R.pk a O (v:=vB false) O) (Mw.p O O (fun _=>R.pk b O (v:=vB false) O) (Mw.nil ((ag) ⟨false,N,O,((h.j i).j D).w,O,Y⟩))))
  ·refine Cw.exit ?_
   rw[am]at Y
   exact sr (Nb O (.ret (rt Y A)))
theorem p28 {x0 a b x1 d r}(f:Rd W K [a,b] x0)(h:Rd W K [d] x1)(Y:Vm.zd2 x0 x1=some r):Q1 28 [.agg [a,b].toArray,d] W [] fun W' v=>v=vB r:=
 (c28 (f.view _) (h.view _) Y).ad (fk 0) fun _ _ e=>e
theorem c12 {x0 ae af r}(h0:Rd W0 [0] [ae,af] x0)(ah:Gl 0 W0 [0])(Y:Vm.zeC x0=some r):Q0 12 [.agg [ae,af].toArray] W0 fun Wf v=>v=vB r:=by
 unfold Vm.zeC at Y
 obtain⟨b9,cb,ai,C,aj⟩:=Repo.split h0
 simp only[List.cons.injEq,and_true,true_and]at ai
 obtain⟨rfl,rfl⟩:=ai
 refine zap.of Tryz.func12 O O O O (sr (bo 2 O fun g1 W1 l1 G=>?_))
 have H:=l1.o
 refine Nb O (ssr (fl G O (Lw.ln x0.Commits (C.ul H) O (Lw.gt O (nl (cn Y (fun Y=>?_) fun Y=>?_))))))
 ·exact sr (Nb O (.ret (rt Y H)))
 ·refine sk (ssr (fl G O (Lw.ln x0.Commits (C.ul H) O (mi O (nl (Cw.block ?_))))))
  obtain⟨bb,bc,Y⟩:=za1 Y
  refine Cw.loop 14 65 [2,3,4,6,14] (fun m l w=> ∃ I B j6 j7 Q S,CW.w S=w/\Le [3] W1 S/\l=[vB I,j6,j7,Q,vI B]/\Vm.zb4 x0 bb m I B=some r) _ ⟨false,0,undef,undef,undef,W1,O,Le.refl _ _,O,Y⟩ ?_
  rintro(_ |cd) _ _ σ ⟨I,B,j6,j7,Q,S,rfl,l10,rfl,Y⟩
  ·cases Y
  unfold Vm.zb4 at Y
  have d:=H.t l10
  refine sr (Lw.lt O (nl (Cw.seq (cn Y (fun Y=>?_) fun Y=>?_))))
  ·refine sk (Cw.seq (Cw.block (sr (mi O ?_))))
   obtain⟨A,ao,Y⟩:=ob Y
   refine Lw.r O (R.ix (α:=Commit) (C.ul d) ao O O O) ?_
   obtain⟨x19,c20,_,r21⟩:=((C.ul d).at_ ao).cells
   obtain⟨U,ap,rfl,r23,r25⟩:=Commit.split r21
   refine Lw.r O (R.lda c20 O O) (al 3 [.slice none 0 0,vS ([]:Str), .slice none 0 0] fun be ce aq bg=>?_)
   have e:=aq.o
   refine Gi O (sta bg (zaa r23.oc (zaa O (zaa r25.oc zaw))) fun bh ar au=>?_)
   have f:=ar.s
   refine nl (Cw.seq ?_)
   obtain⟨bi,bj,Y⟩:=za1 Y
   refine Cw.join 19 51 [51] (fun l w=> ∃ V D,CW.w D=w/\Le [] bh D/\l=[vB V]/\bi V=some r) ?_ ?_
   ·rintro _ _ σ ⟨V,D,rfl,W,rfl,Y⟩
    rw[bj]at Y
    have J:=W.o
    refine cn Y (fun Y=>?_) fun Y=>?_
    ·exact sr (Nb O (.ret (rt Y (((d.trans e).trans f).trans J))))
    ·refine sk (sr (fl (au.up W) O (Lw.ln A.Parents (r23.ul ((e.trans f).trans J)) O (mi O (nl (Cw.block ?_))))))
     obtain⟨bk,bl,Y⟩:=za1 Y
     refine Cw.loop 55 64 [2,6,55] (fun m l w=> ∃ E L X M,CW.w M=w/\Le [] D M/\l=[vB E,X,vI L]/\Vm.zbm B A bk m E L=some r) _ ⟨I,0,Q,D,O,Le.refl _ _,O,Y⟩ ?_
     rintro(_ |cf) _ _ σ ⟨E,L,X,M,rfl,Z,rfl,Y⟩
     ·cases Y
     unfold Vm.zbm at Y
     have av:=Z.o
     refine sr (Lw.lt O (nl (Cw.seq (cn Y (fun Y=>?_) fun Y=>?_))))
     ·refine sk (Cw.seq (Cw.block (sr ?_)))
      obtain⟨bm,aw,Y⟩:=ob Y
      have ax:=r23.ul (((e.trans f).trans J).trans av)
      refine Lw.r O (R.ix (α:=Int) ax aw O O O) (Lw.r O (R.ld O O (ax.at_ aw).int) (Ni O (sr (mi O (mi O (Lw.sub O (ca Y (fun _=>p23) fun cg bn Y ay=>?_)))))))
      have bp:=((((d.trans e).trans f).trans J).trans av).n ay
      refine Lw.r O (R.not O) (nl (cn Y (fun Y=>?_) fun Y=>?_))
      ·exact sr (Nb O (.ret (rt Y bp)))
      ·exact sk (rg (Lw.add O (mi O (nl ((agm) ⟨E,w64 (L+1),vI bm,bn,O,(Z.j ay).w,O,Y⟩)))))
     ·refine Cw.exit ?_
      rw[bl]at Y
      exact rg (Lw.add O (mi O (nl ((agm) ⟨E,w64 (B+1),vI B,ptr (bx be),X,M,O,((((l10.j aq).j ar).j W).j Z).w,O,Y⟩))))
   ·refine Cw.draw [] [(0,0),(1,1),(2,0),(3,0),(4,0),(5,0),(6,1),(7,0),(8,0),(9,0),(10,0),(11,1),(12,0),(13,1),(14,0),(15,1),(16,0),(17,1),(18,0),(19,0),(20,0),(21,0),(22,0),(23,1),(24,2),(25,0),(26,0),(27,0),(28,0),(29,1),(30,2),(31,0),(32,0)] mixed (by kernel_rfl) fun az h=>?_
    have F:=h.o
    have i:=au.up h
    have k:=r23.ul ((e.trans f).trans F)
    refine Dfl i O O O (Mw.p O O (fun _=>zpZ (xs:=A.Parents) k O) (Mw.p O O (fun _=>R.gt O O) (Db O (bs Y (fun a Y=>?_) fun a Y=>?_))))
    ·exact dps 5 a O (dpu 9 O (dps 1 a O (Mw.p O O (fun _=>R.pk a O (v:=vB true) O) (Db O (dps 4 O O (Mw.p O O (fun _=>R.pk O O (v:=vB true) O) (Db O (dps 4 O O (Mw.p O O (fun _=>R.pk O O (v:=vB true) O) (Mw.nil ((ag) ⟨true,az,O,h,O,Y⟩)))))))))))
    ·refine Wp a O (fun _=>R.fa O) (Wq a O (fun _ c=>R.ld (v:=U) O O (i.clc O O c)) (Wp a O (fun _=>zpZ (xs:=A.Parents) k O) (Wp a O (fun _=>R.eq O O) (Wp a O (fun _=>R.mv (v:=vB ((A.Parents.length:Int)==2)) O) (bs Y (fun b Y=>?_) fun b Y=>?_)))))
     ·refine Wp b O (fun _=>R.fa O) (Wq b O (fun _ c=>R.ld (v:=U) O O (i.clc O O c)) ?_)
      obtain⟨a0,aa,Y⟩:=ob Y
      refine Wp b O (fun _=>R.ix (α:=Int) k aa O O O) (Wq b O (fun _ c=>R.ld O O (zam (k.at_ aa).1 O (k.at_ aa).int c)) (Wp b O (fun _=>R.fa O) (Wq b O (fun _ c=>R.ld (v:=U) O O (i.clc O O c)) ?_)))
      obtain⟨a1,ac,Y⟩:=ob Y
      refine Wp b O (fun _=>R.ix (α:=Int) k ac O O O) (Wq b O (fun _ c=>R.ld O O (zam (k.at_ ac).1 O (k.at_ ac).int c)) (Wp b O (fun _=>R.eq O O) (Wp a O (fun _=>R.pk b O (v:=vB ((a0:Int)==(a1:Int))) O) (Mw.p O O (fun _=>R.pk a O (v:=vB ((a0:Int)==(a1:Int))) O) (Db O (bs Y (fun x Y=>?_) fun x Y=>?_))))))
      ·exact dps 4 x O (Mw.p O O (fun _=>R.pk x O (v:=vB true) O) (Db O (dps 4 O O (Mw.p O O (fun _=>R.pk O O (v:=vB true) O) (Mw.nil ((ag) ⟨true,az,O,h,O,Y⟩))))))
      ·refine Wp x O (fun _=>R.fa O) (Wq x O (fun _ c=>R.ld (v:=vS A.Who) O O (i.clc O O c)) ?_)
       obtain⟨bq,br,Y⟩:=ob Y
       refine Wt x O (T.call O (p26 br)) ?_
       rintro _ _ ⟨bu,rfl,N,rfl⟩
       have a3:=N.o
       refine m0 N fun bv=>Wp x O (fun _=>R.not O) (Mw.p O O (fun _=>R.pk x O (v:=vB (!bq)) O) (Db O (bs Y (fun y Y=>?_) fun y Y=>?_)))
       ·exact dps 4 y O (Mw.p O O (fun _=>R.pk y O (v:=vB true) O) (Mw.nil ((ag) ⟨true,bu,O,(h.j N).w,O,Y⟩)))
       ·refine Wp y O (fun _=>R.fa O) (Wq y O (fun _ c=>R.ld (v:=ap) O O (i.clc O O c)) ?_)
        obtain⟨a4,bw,Y⟩:=ob Y
        refine Wt y O (T.call O (p27 (r25.ul (((e.trans f).trans F).trans a3)) (ah.ul ((((d.trans e).trans f).trans F).trans a3)) bw)) ?_
        rintro _ _ ⟨bz,rfl,a5,rfl⟩
        exact mc bv a5 fun ch=>Wp y O (fun _=>R.not O) (Mw.p O O (fun _=>R.pk y O (v:=vB (!a4)) O) (Mw.nil ((ag) ⟨(!a4),bz,O,((h.j N).j a5).w,O,Y⟩)))
     ·refine dps 9 b O (Wp a O (fun _=>R.pk b O (v:=vB false) O) (Mw.p O O (fun _=>R.pk a O (v:=vB false) O) (Db O (Wp O O (fun _=>R.fa O) (Wq O O (fun _ c=>R.ld (v:=vS A.Who) O O (i.clc O O c)) ?_)))))
      obtain⟨b0,b2,Y⟩:=ob Y
      refine Wt O O (T.call O (p26 b2)) ?_
      rintro _ _ ⟨b3,rfl,P,rfl⟩
      have a6:=P.o
      refine m0 P fun b4=>Wp O O (fun _=>R.not O) (Mw.p O O (fun _=>R.pk O O (v:=vB (!b0)) O) (Db O (bs Y (fun z Y=>?_) fun z Y=>?_)))
      ·exact dps 4 z O (Mw.p O O (fun _=>R.pk z O (v:=vB true) O) (Mw.nil ((ag) ⟨true,b3,O,(h.j P).w,O,Y⟩)))
      ·refine Wp z O (fun _=>R.fa O) (Wq z O (fun _ c=>R.ld (v:=ap) O O (i.clc O O c)) ?_)
       obtain⟨a7,b5,Y⟩:=ob Y
       refine Wt z O (T.call O (p27 (r25.ul (((e.trans f).trans F).trans a6)) (ah.ul ((((d.trans e).trans f).trans F).trans a6)) b5)) ?_
       rintro _ _ ⟨b6,rfl,a8,rfl⟩
       exact mc b4 a8 fun ci=>Wp z O (fun _=>R.not O) (Mw.p O O (fun _=>R.pk z O (v:=vB (!a7)) O) (Mw.nil ((ag) ⟨(!a7),b6,O,((h.j P).j a8).w,O,Y⟩)))
  ·refine Cw.exit ?_
   rw[bc]at Y
   refine sr (la (G.up l10) (fl (G.up l10) O (ca Y (fun _=>p28 (Repo.rd (K:=[0]) x0.Commits x0.Heads (C.ul d) (aj.ul d)) (aj.ul d)) fun cj ck Y b7=>?_)))
   have b8:=d.n b7
   exact Nb O (.ret (rt Y b8))
theorem p12 {x0 a b r}(d:Rd W K [a,b] x0)(f:Gl 0 W K)(Y:Vm.zeC x0=some r):Q1 12 [.agg [a,b].toArray] W [] fun W' v=>v=vB r:=
 (c12 (d.view _) (f.view _) Y).ad (fk 0) fun _ _ e=>e
theorem c15 {x0 b x1 f r}(d:Rd W0 [0] [b] x0)(h:Rd W0 [0] [f] x1)(Y:Vm.zaE x0 x1=some r):Q0 15 [b,f] W0 fun Wf v=>v=vB r:=by
 unfold Vm.zaE at Y
 refine zap.of Tryz.func15 O O O O (sr (Nb O (ssr (mv b O (Lw.ln x0 d O (mv f O (Lw.ln x1 h O (Lw.ne O (nl (cn Y (fun Y=>?_) fun Y=>?_))))))))))
 ·exact sr (Nb O (.ret (rt Y (Le.refl _ _))))
 ·refine sk (ssr (mv b O (Lw.ln x0 d O (mi O (nl (Cw.block ?_))))))
  obtain⟨C,D,Y⟩:=za1 Y
  refine Cw.loop 13 25 [4,5,13] (fun m l w=> ∃ i e z k,CW.w k=w/\Le [] W0 k/\l=[vB i,z,vI e]/\Vm.zaq x0 x1 C m i e=some r) _ ⟨false,0,undef,W0,O,Le.refl _ _,O,Y⟩ ?_
  rintro(_ |F) _ _ σ ⟨i,e,z,k,rfl,A,rfl,Y⟩
  ·cases Y
  unfold Vm.zaq at Y
  have B:=A.o
  refine sr (Lw.lt O (nl (Cw.seq (cn Y (fun Y=>?_) fun Y=>?_))))
  ·refine sk (Cw.seq (Cw.block (sr (mi O (Ni O (Cw.seq (Cw.draw [] [(0,0),(1,0),(2,0),(3,1),(4,0),(5,0),(6,0),(7,1),(8,0)] mixed (by kernel_rfl) fun E l10=>?_)))))))
   have a:=B.n l10
   refine Dv b O (Di O ?_)
   obtain⟨G,x,Y⟩:=ob Y
   refine Mw.p O O (fun _=>R.ix (α:=Str) (d.ul a) x O O O) (Mw.q O O (fun _ c=>R.ld O O (zam ((d.ul a).at_ x).1 O ((d.ul a).at_ x).str c)) (Dv f O (Di O ?_)))
   obtain⟨H,y,Y⟩:=ob Y
   refine Mw.p O O (fun _=>R.ix (α:=Str) (h.ul a) y O O O) (Mw.q O O (fun _ c=>R.ld O O (zam ((h.ul a).at_ y).1 O ((h.ul a).at_ y).str c)) (Mw.p O O (fun _=>R.sne O O) (Mw.nil (cn Y (fun Y=>?_) fun Y=>?_))))
   ·exact sr (Nb O (.ret (rt Y a)))
   ·exact sk (rg (Lw.add O (mi O (nl ((agm) ⟨i,w64 (e+1),vI e,E,O,(A.j l10).w,O,Y⟩)))))
  ·refine Cw.exit ?_
   rw[D]at Y
   exact sr (Nb O (.ret (rt Y B)))
theorem p15 {x0 a x1 b r}(d:Rd W K [a] x0)(f:Rd W K [b] x1)(Y:Vm.zaE x0 x1=some r):Q1 15 [a,b] W [] fun W' v=>v=vB r:=
 (c15 (d.view _) (f.view _) Y).ad (fk 0) fun _ _ e=>e
theorem c14 {x0 b x1 d a r}(f:Rd W0 [0] [b] x0)(hB1:Bx W0 2 d [vS x1.Path,a])(h:Rd W0 [0] [a] x1.Text)(Y:Vm.zbO x0 x1=some r):Q0 14 [b,ptr (bx d)] W0 fun Wf v=>v=vB r/\Bx Wf 2 d [vS x1.Path,a]:=by
 unfold Vm.zbO at Y
 refine zap.of Tryz.func14 O O O O (sr (Nb O (sr (mv b O (Lw.fa O (Lw.r O (R.ld (v:=a) O O (hB1.cell O)) (ca Y (fun _=>p15 f h) fun x y Y e=>?_)))))))
 have i:=e.o
 have k:=hB1.up e
 refine Nb O ?_
 cases Y
 exact Cw.ret (zhg O (Res.mk i ⟨O,k⟩))
theorem p14 {x0 d x1 a b c0 r}(f:Rd W K [d] x0)(hB1:Bx W c0 a [vS x1.Path,b])(h:Rd W K [b] x1.Text)(hJ:okJ K [c0]=true)(Y:Vm.zbO x0 x1=some r):Q1 14 [d,ptr (bx a)] W [c0] fun W' v=>v=vB r/\Bx W' c0 a [vS x1.Path,b]:=
 zap.adJ (J:=[c0]) (fun c=>bif Nat.beq c 0 then 0 else bif Nat.beq c 2 then c0 else 0) (c14 (f.view _) (hB1.viewJ 0 hJ) (h.view _) Y) fun _ _ ⟨e,i⟩=>⟨e,Bx.backJ 0 i O⟩
theorem c16 {x0 a r}(f:Rd W0 [0] [a] x0)(Y:Vm.zdw x0=some r):Q0 16 [a] W0 fun Wf v=> ∃ b,v=b/\OwS Wf LL [] [b] r:=by
 unfold Vm.zdw at Y
 refine zap.of Tryz.func16 O O O O (sr (Nv (.slice none 0 0) O (sr (Lw.t O (T.lit0 (α:=Str) 2 []) ?_))))
 rintro A _ ⟨B,rfl,h,i⟩
 have d:=h.o
 refine mv a O ?_
 obtain⟨C,k,Y⟩:=ob Y
 refine Lw.t O (T.appP (α:=Str) i (f.ul d) O O k) ?_
 rintro e _ ⟨D,rfl,x,y⟩
 have z:=d.t x
 refine Nv e O ?_
 cases Y
 exact Cw.ret (zhg O (Res.mk z ⟨e,O,y.s.sub O O⟩))
theorem p16 {x0 b k0 r}(d:Rd W K [b] x0)(Y:Vm.zdw x0=some r):Q1 16 [b] W [] fun W' v=> ∃ a,v=a/\Ow W' k0 [] [a] r:=
 (c16 (d.view _) Y).ad (fk k0) fun _ _ ⟨a,e,f⟩=>⟨a,e,f.back (zhe _)⟩
theorem c29_14 {x0 e x2 a f r}(k:Rd W0 [0] [e] x0)(hB2:Bx W0 2 a [vS x2.Path,f])(D:Rd W0 [0] [f] x2.Text)(Y:Vm.zan x0 x2=some r):Q0 29 [e, .func (.func 14) #[] [ptr (bx a)].toArray] W0 fun Wf v=>v=vI r/\Bx Wf 2 a [vS x2.Path,f]:=by
 unfold Vm.zan at Y
 refine zap.of Tryz.func29 O O O O (sr (Ni O (ssr (mv e O (Lw.ln x0 k O (mi O (nl (Cw.block ?_))))))))
 obtain⟨E,F,Y⟩:=za1 Y
 refine Cw.loop 8 18 [4,5,8] (fun m l w=> ∃ h b x i,CW.w i=w/\Le [2] W0 i/\l=[vI h,x,vI b]/\Bx i 2 a [vS x2.Path,f]/\Vm.zab x0 x2 E m h b=some r) _ ⟨0,0,undef,W0,O,Le.refl _ _,O,hB2,Y⟩ ?_
 rintro(_ |K) _ _ σ ⟨h,b,x,i,rfl,y,rfl,z,Y⟩
 ·cases Y
 unfold Vm.zab at Y
 have d:=y.s
 refine sr (Lw.lt O (nl (Cw.seq (cn Y (fun Y=>?_) fun Y=>?_))))
 ·refine sk (Cw.seq (Cw.block (sr (mi O (Ni O (sr (mv (.func (.func 14) #[] [ptr (bx a)].toArray) O (mv e O (mi O ?_)))))))))
  obtain⟨L,A,Y⟩:=ob Y
  refine Lw.r O (R.ix (α:=List Str) (k.ul d) A O O O) ?_
  obtain⟨G,c14,r15⟩:=((k.ul d).at_ A).cell O
  refine Lw.r O (R.ld O O c14) ?_
  obtain⟨M,H,Y⟩:=ob Y
  refine Lw.t O (T.callV (vals:=[G]) (caps:=[ptr (bx a)]) O O (p14 (c0:=2) (x1:=(Vm.File.mk x2.Path x2.Text)) r15 z (D.ul d) O H)) ?_
  rintro _ _ ⟨I,rfl,B,⟨rfl,C⟩⟩
  have J:=d.t B
  refine nl (cn Y (fun Y=>?_) fun Y=>?_)
  ·refine sr (mi O (Ni O ?_))
   cases Y
   exact Cw.ret (zhg O (Res.mk J ⟨O,C⟩))
  ·exact sk (rg (Lw.add O (mi O (nl ((agm) ⟨h,w64 (b+1),vI b,I,O,(y.j B).w,O,C,Y⟩)))))
 ·refine Cw.exit ?_
  rw[F]at Y
  refine sr (Ni O ?_)
  cases Y
  exact Cw.ret (zhg O (Res.mk d ⟨O,z⟩))
theorem p29_14 {x0 d x2 a b c0 r}(f:Rd W K [d] x0)(hB2:Bx W c0 a [vS x2.Path,b])(h:Rd W K [b] x2.Text)(hJ:okJ K [c0]=true)(Y:Vm.zan x0 x2=some r):Q1 29 [d, .func (.func 14) #[] [ptr (bx a)].toArray] W [c0] fun W' v=>v=vI r/\Bx W' c0 a [vS x2.Path,b]:=
 zap.adJ (J:=[c0]) (fun c=>bif Nat.beq c 0 then 0 else bif Nat.beq c 2 then c0 else 0) (c29_14 (f.view _) (hB2.viewJ 0 hJ) (h.view _) Y) fun _ _ ⟨e,i⟩=>⟨e,Bx.backJ 0 i O⟩
theorem c13_14 {x0 b x2 a d r}(e:Rd W0 [0] [b] x0)(hB2:Bx W0 2 a [vS x2.Path,d])(f:Rd W0 [0] [d] x2.Text)(Y:Vm.zad x0 x2=some r):Q0 13 [b, .func (.func 14) #[] [ptr (bx a)].toArray] W0 fun Wf v=>v=vB r/\Bx Wf 2 a [vS x2.Path,d]:=by
 unfold Vm.zad at Y
 refine zap.of Tryz.func13 O O O O (sr (Nb O (sr (mv b O (mv (.func (.func 14) #[] [ptr (bx a)].toArray) O (cr Y (fun _=>p29_14 (c0:=2) (x2:=x2) e hB2 f O) ?_))))))
 rintro x _ y Y h ⟨rfl,i⟩
 have k:=h.s
 refine Lw.ge O (Nb O ?_)
 cases Y
 exact Cw.ret (zhg O (Res.mk k ⟨O,i⟩))
theorem p13_14 {x0 d x2 a b c0 r}(f:Rd W K [d] x0)(hB2:Bx W c0 a [vS x2.Path,b])(h:Rd W K [b] x2.Text)(hJ:okJ K [c0]=true)(Y:Vm.zad x0 x2=some r):Q1 13 [d, .func (.func 14) #[] [ptr (bx a)].toArray] W [c0] fun W' v=>v=vB r/\Bx W' c0 a [vS x2.Path,b]:=
 zap.adJ (J:=[c0]) (fun c=>bif Nat.beq c 0 then 0 else bif Nat.beq c 2 then c0 else 0) (c13_14 (f.view _) (hB2.viewJ 0 hJ) (h.view _) Y) fun _ _ ⟨e,i⟩=>⟨e,Bx.backJ 0 i O⟩
theorem c5 {x0 Z aa r}(h0:Rd W0 [0] [Z,aa] x0)(a0:Gl 0 W0 [0])(Y:Vm.zbn x0=some r):Q0 5 [.agg [Z,aa].toArray] W0 fun Wf v=> ∃ u0,v = .tuple [u0,vB r.2].toArray/\OwS Wf LL [] [u0] r.1:=by
 unfold Vm.zbn at Y
 obtain⟨b3,b4,ae,k,a1⟩:=Repo.split h0
 simp only[List.cons.injEq,and_true,true_and]at ae
 obtain⟨rfl,rfl⟩:=ae
 refine zap.of Tryz.func5 O O O O (sr (bo 2 O fun g1 W1 l1 b1=>?_))
 have x:=l1.o
 refine Gv (.slice none 0 0) O (Nb O (ssr (la b1 (ca Y (fun _=>p12 (Repo.rd (K:=[0]) x0.Commits x0.Heads (k.ul x) (a1.ul x)) (a0.ul x)) fun z6 W8 Y l8=>?_))))
 have G:=x.n l8
 refine Lw.r O (R.not O) (nl (cn Y (fun Y=>?_) fun Y=>?_))
 ·refine sr (Gv (.slice none 0 0) O (Nb O ?_))
  cases Y
  exact Cw.ret (zit O O (Res.mk G ⟨.slice none 0 0,O,(zmG []).sub O O⟩))
 ·refine sk (sr (Nv (.slice none 0 0) O (ssr (fl (b1.up l8) O (Lw.ln x0.Commits (k.ul G) O (mi O (nl (Cw.block ?_))))))))
  obtain⟨a4,a5,Y⟩:=za1 Y
  refine Cw.loop 15 37 [4,6,8,15] (fun m l w=> ∃ e y a aj H z,CW.w z=w/\Le [3,4,5,6] W8 z/\l=[a,aj,H,vI y]/\Ow z 3 [] [a] e/\Vm.zba x0 a4 m e y=some r) _ ⟨([]:List (List Str)),0, .slice none 0 0,undef,undef,W8,O,Le.refl _ _,O,owN 3 [],Y⟩ ?_
  rintro(_ |b8) _ _ σ ⟨e,y,a,aj,H,z,rfl,ak,rfl,I,Y⟩
  ·cases Y
  unfold Vm.zba at Y
  have A:=G.t ak
  refine sr (Lw.lt O (nl (Cw.seq (cn Y (fun Y=>?_) fun Y=>?_))))
  ·refine sk (Cw.seq (Cw.block (sr ?_)))
   obtain⟨am,an,Y⟩:=ob Y
   refine Lw.r O (R.ix (α:=Commit) (k.ul A) an O O O) ?_
   obtain⟨x28,c29,_,r30⟩:=((k.ul A).at_ an).cells
   obtain⟨b9,cb,rfl,r32,r34⟩:=Commit.split r30
   refine Lw.r O (R.lda c29 O O) (al 4 [.slice none 0 0,vS ([]:Str), .slice none 0 0] fun a6 cc L a7=>?_)
   have a8:=L.o
   refine sta a7 (zaa r32.oc (zaa O (zaa r34.oc zaw))) fun ao N ba=>?_
   have ap:=a8.t N
   refine nl (sr (fl ba O (Lw.ln am.Tree (r34.ul ap) O (mi O (nl (Cw.block ?_))))))
   obtain⟨bb,bc,Y⟩:=za1 Y
   refine Cw.loop 22 36 [4,8,22] (fun m l w=> ∃ f B b P d,CW.w d=w/\Le [3,5,6] ao d/\l=[b,P,vI B]/\Ow d 3 [] [b] f/\Vm.zaU am bb m f B=some r) _ ⟨e,0,a,H,ao,O,Le.refl _ _,O,((I.up L).up N),Y⟩ ?_
   rintro(_ |cd) _ _ σ ⟨f,B,b,P,d,rfl,Q,rfl,aq,Y⟩
   ·cases Y
   unfold Vm.zaU at Y
   have ar:=ap.t Q
   refine sr (Lw.lt O (nl (Cw.seq (cn Y (fun Y=>?_) fun Y=>?_))))
   ·refine sk ?_
    obtain⟨be,bg,Y⟩:=za1 Y
    refine Cw.join 24 35 [4,8] (fun l w=> ∃ C D S h,CW.w h=w/\Le [3,5,6] d h/\l=[D,S]/\Ow h 3 [] [D] C/\be C=some r) ?_ ?_
    ·rintro _ _ σ ⟨C,D,S,h,rfl,bh,rfl,bi,Y⟩
     rw[bg]at Y
     exact rg (Lw.add O (mi O (nl ((agm) ⟨C,w64 (B+1),D,S,h,O,(Q.j bh).w,O,bi,Y⟩))))
    ·refine Cw.block (sr ?_)
     obtain⟨bj,au,Y⟩:=ob Y
     refine Lw.r O (R.ix (α:=File) (r34.ul ar) au O O O) ?_
     obtain⟨x68,c69,_,r70⟩:=((r34.ul ar).at_ au).cells
     obtain⟨bk,rfl,r72⟩:=File.split r70
     refine Lw.r O (R.lda c69 O O) (al 5 [vS ([]:Str), .slice none 0 0] fun U ce E bl=>?_)
     have bm:=E.o
     refine sta bl (zaa O (zaa r72.oc zaw)) fun cf F bn=>?_
     have av:=bm.t F
     have V:=(aq.up E).up F
     refine nl (sr (mv b O (Lw.r O (R.mkF (vs:=[ptr (bx U)]) O) (cr Y (fun _=>p13_14 (K:=[0,3]) (c0:=5) (x2:=bj) (V.rd.sub (M:=[0,3]) O) bn ((r72.ul av).sub (M:=[0,3]) O) O) ?_))))
     rintro cg _ bp Y i ⟨rfl,bq⟩
     have br:=av.t i
     refine Lw.r O (R.not O) (nl (cn Y (fun Y=>?_) fun Y=>?_))
     ·refine rg (mv b O (Lw.fa O (Lw.r O (R.ld (v:=bk) O O (bq.cell O)) (cr Y (fun _=>p16 (k0:=6) (r72.ul br)) ?_))))
      rintro ch aw ci Y ax ⟨_,rfl,W⟩
      refine Lw.t O (T.bs 7 [aw] (cs:=[aw]) (bsc W.oc) O (bsv W.oc)) ?_
      rintro _ _ ⟨cj,ck,rfl,rfl,X,bu⟩
      obtain⟨bv,bw,Y⟩:=ob Y
      refine Lw.t O (T.app1 (α:=List Str) (J:=[6]) (K':=[]) (((V.up i).up ax).up X) bu (W.up X).s O O bw) ?_
      rintro ay _ ⟨bz,rfl,b0,b2⟩
      exact Nv ay O ((ag) ⟨bv,ay,ptr (bx U),bz,O,(((((E.j F).j i).j ax).j X).j b0).w,O,b2,Y⟩)
     ·exact sk ((ag) ⟨f,b,ptr (bx U),bp,O,((E.j F).j i).w,O,(V.up i),Y⟩)
   ·refine Cw.exit ?_
    rw[bc]at Y
    exact rg (Lw.add O (mi O (nl ((agm) ⟨f,w64 (y+1),b,ptr (bx a6),P,d,O,(((ak.j L).j N).j Q).w,O,aq,Y⟩))))
  ·refine Cw.exit ?_
   rw[a5]at Y
   refine ssr (mv a O (Lw.ln e I.rd O (Lw.gt O (nl (cn Y (fun Y=>?_) fun Y=>?_)))))
   ·refine sr (Gv (.slice none 0 0) O (Nb O ?_))
    cases Y
    exact Cw.ret (zit O O (Res.mk A ⟨.slice none 0 0,O,(zmG []).sub O O⟩))
   ·refine sk (sr (mv a O (Gv a O (Nb O ?_))))
    cases Y
    exact Cw.ret (zit O O (Res.mk A ⟨a,O,I.s.sub O O⟩))
theorem p5 {x0 b d k0 r}(f:Rd W K [b,d] x0)(h:Gl 0 W K)(Y:Vm.zbn x0=some r):Q1 5 [.agg [b,d].toArray] W [] fun W' v=> ∃ a,v = .tuple [a,vB r.2].toArray/\Ow W' k0 [] [a] r.1:=
 (c5 (f.view _) (h.view _) Y).ad (fk k0) fun _ _ ⟨a,e,i⟩=>⟨a,e,i.back (zhe _)⟩
theorem c6 {x0 an ao r}(h0:Rd W0 [0] [an,ao] x0)(Y:Vm.zbo x0=some r):Q0 6 [.agg [an,ao].toArray] W0 fun Wf v=> ∃ u0,v = .tuple [u0,vB r.2].toArray/\OwS Wf LL [] [u0] r.1:=by
 unfold Vm.zbo at Y
 obtain⟨cb,cc,aq,N,ba⟩:=Repo.split h0
 simp only[List.cons.injEq,and_true,true_and]at aq
 obtain⟨rfl,rfl⟩:=aq
 refine zap.of Tryz.func6 O O O O (sr (bo 2 O fun g1 W1 l1 b1=>?_))
 have a2:=l1.o
 refine Gv (.slice none 0 0) O (Nb O (sr (Lw.t O (T.lit0 (α:=List Str) 3 []) ?_)))
 rintro v3 _ ⟨W3,rfl,P,o3⟩
 have Q:=a2.n P
 refine Nv v3 O (ssr (la (b1.up P) (ca Y (fun _=>p17 (Repo.rd (K:=[0]) x0.Commits x0.Heads (N.ul Q) (ba.ul Q))) fun z8 av Y l10=>?_)))
 have aw:=Q.n l10
 refine Lw.r O (R.not O) (nl (cn Y (fun Y=>?_) fun Y=>?_))
 ·refine sr (Gv (.slice none 0 0) O (Nb O ?_))
  cases Y
  exact Cw.ret (zit O O (Res.mk aw ⟨.slice none 0 0,O,(zmG []).sub O O⟩))
 ·refine sk (ssr (Ni O (Cw.block ?_)))
  obtain⟨bg,bh,Y⟩:=za1 Y
  refine Cw.loop 14 64 [4,5,6,7,8,9] (fun m l w=> ∃ k x a ax S U V h,CW.w h=w/\Le [3,4] av h/\l=[a,vI x,ax,S,U,V]/\Ow h 3 [] [a] k/\Vm.zbb x0 bg m k x=some r) _ ⟨([]:List (List Str)),0,v3,undef,undef,undef,undef,av,O,Le.refl _ _,O,(o3.up l10),Y⟩ ?_
  rintro(_ |ch) _ _ σ ⟨k,x,a,ax,S,U,V,h,rfl,W,rfl,X,Y⟩
  ·cases Y
  unfold Vm.zbb at Y
  have G:=aw.t W
  have Z:=((b1.up P).up l10).up W
  refine ssr (mi O (fl Z O (Lw.ln x0.Commits (N.ul G) O (Lw.lt O (nl (cn Y (fun Y=>?_) fun Y=>?_))))))
  ·refine sk (Cw.seq (Cw.block (sr (Ni O (Cw.block ?_)))))
   obtain⟨bi,bj,Y⟩:=za1 Y
   refine Cw.loop 21 64 [4,6,7,8,9] (fun m l w=> ∃ e y b aa ac ae d,CW.w d=w/\Le [3,4] h d/\l=[b,vI y,aa,ac,ae]/\Ow d 3 [] [b] e/\Vm.zaV x0 x bi m e y=some r) _ ⟨k,0,a,S,U,V,h,O,Le.refl _ _,O,X,Y⟩ ?_
   rintro(_ |ci) _ _ σ ⟨e,y,b,aa,ac,ae,d,rfl,z,rfl,ay,Y⟩
   ·cases Y
   unfold Vm.zaV at Y
   have bk:=G.t z
   refine ssr (mi O (fl (Z.up z) O (mi O ?_)))
   obtain⟨bl,az,Y⟩:=ob Y
   have H:=N.ul bk
   refine Lw.r O (R.ix (α:=Commit) H az O O O) (Lw.fa O ?_)
   obtain⟨cj,c46,r47⟩:=(Commit.at2 (H.at_ az)).cell O
   refine Lw.r O (R.ld O O c46) (Lw.ln bl.Tree r47 O (Lw.lt O (nl (cn Y (fun Y=>?_) fun Y=>?_))))
   ·refine sk ?_
    obtain⟨bm,bn,Y⟩:=za1 Y
    refine Cw.join 32 64 [4,7,8,9] (fun l w=> ∃ I L af ah ai A,CW.w A=w/\Le [3,4] d A/\l=[L,af,ah,ai]/\Ow A 3 [] [L] I/\bm I=some r) ?_ ?_
    ·rintro _ _ σ ⟨I,L,af,ah,ai,A,rfl,bp,rfl,bq,Y⟩
     rw[bn]at Y
     exact rg (mi O (Lw.add O (Ni O ((agm) ⟨I,w64 (y+1),L,af,ah,ai,A,O,(z.j bp).w,O,bq,Y⟩))))
    ·refine Cw.block (sr (fl (Z.up z) O (mi O ?_)))
     obtain⟨ck,a0,Y⟩:=ob Y
     refine Lw.r O (R.ix (α:=Commit) H a0 O O O) (Lw.fa O ?_)
     obtain⟨cl,c62,r63⟩:=(Commit.at2 (H.at_ a0)).cell O
     refine Lw.r O (R.ld O O c62) (mi O ?_)
     obtain⟨u64,a1,Y⟩:=ob Y
     refine Lw.r O (R.ix (α:=File) r63 a1 O O O) (Lw.fa O ?_)
     obtain⟨B,c67,r68⟩:=(File.at1 (r63.at_ a1)).cell O
     refine Lw.r O (R.ld O O c67) (Nv B O (sr (Nb O (ssr (Ni O (Cw.block ?_))))))
     obtain⟨br,bu,Y⟩:=za1 Y
     refine Cw.loop 42 56 [8,9] (fun m l w=> ∃ C f D,CW.w D=w/\Le [] d D/\l=[vB C,vI f]/\Vm.zaI e u64 br m C f=some r) _ ⟨false,0,d,O,Le.refl _ _,O,Y⟩ ?_
     rintro(_ |cm) _ _ σ ⟨C,f,D,rfl,i,rfl,Y⟩
     ·cases Y
     unfold Vm.zaI at Y
     have a3:=i.o
     have E:=ay.up i
     refine ssr (mi O (mv b O (Lw.ln e E.rd O (Lw.lt O (nl (cn Y (fun Y=>?_) fun Y=>?_))))))
     ·refine sk (Cw.seq (Cw.block (rg (mb O (mb O (bs Y (fun F Y=>?_) fun F Y=>?_))))))
      ·exact psk 6 F O (Pb F O (Nb O (rg (mi O (Lw.add O (Ni O ((agm) ⟨true,w64 (f+1),D,O,i,O,Y⟩)))))))
      ·refine wak 6 F (mv b O (mi O ?_))
       obtain⟨co,a5,Y⟩:=ob Y
       refine Lw.r O (R.ix (α:=List Str) E.rd a5 O O O) ?_
       obtain⟨cp,c82,r83⟩:=(E.rd.at_ a5).cell O
       exact Lw.r O (R.ld O O c82) (mv B O (ca Y (fun _=>p18 (K:=[0,3]) (r83.sub (M:=[0,3]) O) ((r68.ul a3).sub (M:=[0,3]) O)) fun bv bw Y bz=>Pb F O (Nb O (rg (mi O (Lw.add O (Ni O ((agm) ⟨bv,w64 (f+1),bw,O,(i.j bz).w,O,Y⟩))))))))
     ·refine Cw.exit ?_
      rw[bu]at Y
      refine sr (mb O (Lw.r O (R.not O) (nl (cn Y (fun Y=>?_) fun Y=>?_))))
      ·refine rg (mv b O (Lw.t O (T.lit0 (α:=Str) 4 []) ?_))
       rintro cq _ ⟨ct,rfl,aj,b0⟩
       have b2:=a3.n aj
       refine mv B O ?_
       obtain⟨cu,b3,Y⟩:=ob Y
       refine Lw.t O (T.appP (α:=Str) b0 (r68.ul b2) O O b3) ?_
       rintro a6 _ ⟨cv,rfl,a7,ak⟩
       refine Lw.t O (T.bs 5 [a6] (cs:=[a6]) (bsc ak.oc) O (bsv ak.oc)) ?_
       rintro _ _ ⟨cw,cx,rfl,rfl,am,b4⟩
       obtain⟨b5,b6,Y⟩:=ob Y
       refine Lw.t O (T.app1 (α:=List Str) (J:=[4]) (K':=[]) (((E.up aj).up a7).up am) b4 (ak.up am).s O O b6) ?_
       rintro a8 _ ⟨b7,rfl,b8,b9⟩
       exact Nv a8 O ((ag) ⟨b5,a8,B,vB C,vI f,b7,O,((((i.j aj).j a7).j am).j b8).w,O,b9,Y⟩)
      ·exact sk ((ag) ⟨e,b,B,vB C,vI f,D,O,i.w,O,E,Y⟩)
   ·refine Cw.exit ?_
    rw[bj]at Y
    exact rg (mi O (Lw.add O (Ni O ((agm) ⟨e,w64 (x+1),b,vI y,aa,ac,ae,d,O,(W.j z).w,O,ay,Y⟩))))
  ·refine Cw.exit ?_
   rw[bh]at Y
   refine ssr (mv a O (Lw.ln k X.rd O (Lw.gt O (nl (cn Y (fun Y=>?_) fun Y=>?_)))))
   ·refine sr (Gv (.slice none 0 0) O (Nb O ?_))
    cases Y
    exact Cw.ret (zit O O (Res.mk G ⟨.slice none 0 0,O,(zmG []).sub O O⟩))
   ·refine sk (sr (mv a O (Gv a O (Nb O ?_))))
    cases Y
    exact Cw.ret (zit O O (Res.mk G ⟨a,O,X.s.sub O O⟩))
theorem p6 {x0 b d k0 r}(f:Rd W K [b,d] x0)(Y:Vm.zbo x0=some r):Q1 6 [.agg [b,d].toArray] W [] fun W' v=> ∃ a,v = .tuple [a,vB r.2].toArray/\Ow W' k0 [] [a] r.1:=
 (c6 (f.view _) Y).ad (fk k0) fun _ _ ⟨a,e,h⟩=>⟨a,e,h.back (zhe _)⟩
theorem c34 {x0 e x1 f r}(J:Rd W0 [0] [e] x0)(K:Rd W0 [0] [f] x1)(Y:Vm.zeD x0 x1=some r):Q0 34 [e,f] W0 fun Wf v=>v=vI r:=by
 unfold Vm.zeD at Y
 refine zap.of Tryz.func34 O O O O (sr (Ni O (sr (Ni O (Cw.seq (Cw.block ?_))))))
 obtain⟨L,M,Y⟩:=za1 Y
 refine Cw.loop 6 28 [5] (fun m l w=> ∃ b h,CW.w h=w/\Le [] W0 h/\l=[vI b]/\Vm.zb5 x0 x1 L m b=some r) _ ⟨0,W0,O,Le.refl _ _,O,Y⟩ ?_
 rintro(_ |S) _ _ σ ⟨b,h,rfl,D,rfl,Y⟩
 ·cases Y
 unfold Vm.zb5 at Y
 have E:=D.o
 refine Cw.seq ?_
 obtain⟨N,P,Y⟩:=za1 Y
 refine Cw.join 6 26 [26] (fun l w=> ∃ z i,CW.w i=w/\Le [] h i/\l=[vB z]/\N z=some r) ?_ ?_
 ·rintro _ _ σ ⟨z,i,rfl,F,rfl,Y⟩
  rw[P]at Y
  have Q:=E.n F
  refine cn Y (fun Y=>?_) fun Y=>?_
  ·exact sk (Cw.block (rg (mi O (Lw.add O (Ni O ((agm) ⟨w64 (b+1),i,O,(D.j F).w,O,Y⟩))))))
  ·refine Cw.exit ?_
   rw[M]at Y
   exact sr (mi O (Ni O (.ret (rt Y Q))))
 ·refine Cw.draw [] [(0,0),(1,0),(2,0),(3,0),(4,0),(5,0),(6,0),(7,0),(8,0),(9,0),(10,0),(11,0),(12,0),(13,0),(14,1),(15,0),(16,0),(17,0),(18,1),(19,0),(20,0)] mixed (by kernel_rfl) fun A k=>?_
  have G:=E.n k
  have x:=J.ul G
  refine Di O (Dv e O (Mw.p O O (fun _=>zpZ (xs:=x0) x O) (Mw.p O O (fun _=>R.lt O O) (Db O (bs Y (fun d Y=>?_) fun d Y=>?_)))))
  ·have y:=K.ul G
   refine Wp d O (fun _=>R.mv (v:=vI b) O) (Wp d O (fun _=>R.mv (v:=f) O) (Wp d O (fun _=>zpZ (xs:=x1) y O) (Wp d O (fun _=>R.lt O O) (Mw.p O O (fun _=>R.pk d O (v:=vB (decide (b< (x1.length:Int)))) O) (Db O (bs Y (fun a Y=>?_) fun a Y=>?_))))))
   ·refine Wp a O (fun _=>R.mv (v:=e) O) (Wp a O (fun _=>R.mv (v:=vI b) O) ?_)
    obtain⟨H,B,Y⟩:=ob Y
    refine Wp a O (fun _=>R.ix (α:=Str) x B O O O) (Wq a O (fun _ c=>R.ld O O (zam (x.at_ B).1 O (x.at_ B).str c)) (Wp a O (fun _=>R.mv (v:=f) O) (Wp a O (fun _=>R.mv (v:=vI b) O) ?_)))
    obtain⟨I,C,Y⟩:=ob Y
    exact Wp a O (fun _=>R.ix (α:=Str) y C O O O) (Wq a O (fun _ c=>R.ld O O (zam (y.at_ C).1 O (y.at_ C).str c)) (Wp a O (fun _=>R.seq O O) (Mw.p O O (fun _=>R.pk a O (v:=vB (H==I)) O) (Mw.nil ((ag) ⟨(H==I),A,O,k,O,Y⟩)))))
   ·exact dps 9 a O (Mw.p O O (fun _=>R.pk a O (v:=vB false) O) (Mw.nil ((ag) ⟨false,A,O,k,O,Y⟩)))
  ·exact dps 4 d O (Mw.p O O (fun _=>R.pk d O (v:=vB false) O) (Db O (dps 9 O O (Mw.p O O (fun _=>R.pk O O (v:=vB false) O) (Mw.nil ((ag) ⟨false,A,O,k,O,Y⟩))))))
theorem p34 {x0 a x1 b r}(d:Rd W K [a] x0)(f:Rd W K [b] x1)(Y:Vm.zeD x0 x1=some r):Q1 34 [a,b] W [] fun W' v=>v=vI r:=
 (c34 (d.view _) (f.view _) Y).ad (fk 0) fun _ _ e=>e
end Go.Sx
