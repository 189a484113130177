/- Walks: each function answers as its model, printed by a program of ours. Conditions: the arguments read as they are given. -/
import Derived.Test.YtiahldhbknpmiaaGreatDoorBTs
import Derived.Test.YtiahldhbknpmiaaGreatDoorBM0
import Derived.Test.YtiahldhbknpmiaaGreatDoorBE
namespace Go.Sx
open Go Go.Proofs Go.Vm Rp
set_option linter.unusedVariables false
set_option linter.unusedSimpArgs false
variable {W W0:CW}{K:List Nat}
theorem c115 {x0 x1 x2 r}(Y:Vm.zfD x0 x1 x2=some r):Q0 115 [vI x0,vI x1,vI x2] W0 fun Wf v=>v=vB r:=by
 unfold Vm.zfD at Y
 refine zaY.of Tryz.func115 O O O O (sr (Nb O ?_))
 obtain⟨e,f,Y⟩:=zdY Y
 refine Cw.join 7 14 [6] (fun l w=> ∃ b d,CW.w d=w/\Le [] W0 d/\l=[vB b]/\e b=some r) ?_ ?_
 ·rintro _ _ σ ⟨b,d,rfl,h,rfl,Y⟩
  rw[f]at Y
  have i:=h.o
  exact .ret (rt Y i)
 ·refine rg (mi O (mi O (Lw.le O (mb O (bs Y (fun a Y=>?_) fun a Y=>?_)))))
  ·exact wak 3 a (mi O (mi O (Lw.le O (Pb a O (Nb O ((ag) ⟨decide (x0<=(x2:Int)),W0,O,Le.refl _ _,O,Y⟩))))))
  ·exact psk 3 a O (Pb a O (Nb O ((ag) ⟨false,W0,O,Le.refl _ _,O,Y⟩)))
theorem p115 {x0 x1 x2 r}(Y:Vm.zfD x0 x1 x2=some r):Q1 115 [vI x0,vI x1,vI x2] W [] fun W' v=>v=vB r:=
 (c115 (W0:=W.view [] []) Y).ad (fk 0) fun _ _ e=>e
theorem c173 {x0 r}(Y:Vm.zeE x0=some r):Q0 173 [.int .u8 (UInt8.toNat x0:Int)] W0 fun Wf v=>v=vB r:=by
 unfold Vm.zeE at Y
 refine zaY.of Tryz.func173 O O O O (sr (Nb O ?_))
 obtain⟨i,k,Y⟩:=zdY Y
 refine Cw.join 3 16 [2] (fun l w=> ∃ f h,CW.w h=w/\Le [] W0 h/\l=[vB f]/\i f=some r) ?_ ?_
 ·rintro _ _ σ ⟨f,h,rfl,x,rfl,Y⟩
  rw[k]at Y
  have y:=x.o
  exact .ret (rt Y y)
 ·refine rg (mv (.int .u8 (UInt8.toNat x0:Int)) O (Lw.ge O (mb O (bs Y (fun b Y=>?_) fun b Y=>?_))))
  ·refine wak 2 b (mv (.int .u8 (UInt8.toNat x0:Int)) O (Lw.le O (Pb b O (mb O (bs Y (fun a Y=>?_) fun a Y=>?_)))))
   ·exact psk 3 a O (puk 2 O (psk 1 a O (Pb a O (Nb O ((ag) ⟨true,W0,O,Le.refl _ _,O,Y⟩)))))
   ·refine wak 3 a (mv (.int .u8 (UInt8.toNat x0:Int)) O (Lw.ge O (mb O (bs Y (fun d Y=>?_) fun d Y=>?_))))
    ·exact wak 2 d (mv (.int .u8 (UInt8.toNat x0:Int)) O (Lw.le O (wak 1 a (Pb d O (Pb a O (Nb O ((ag) ⟨decide (((UInt8.toNat x0:Int):Int)<=(57:Int)),W0,O,Le.refl _ _,O,Y⟩)))))))
    ·exact psk 2 d O (wak 1 a (Pb d O (Pb a O (Nb O ((ag) ⟨false,W0,O,Le.refl _ _,O,Y⟩)))))
  ·refine psk 2 b O (Pb b O (mb O (wak 3 O (mv (.int .u8 (UInt8.toNat x0:Int)) O (Lw.ge O (mb O (bs Y (fun e Y=>?_) fun e Y=>?_)))))))
   ·exact wak 2 e (mv (.int .u8 (UInt8.toNat x0:Int)) O (Lw.le O (wak 1 O (Pb e O (Pb O O (Nb O ((ag) ⟨decide (((UInt8.toNat x0:Int):Int)<=(57:Int)),W0,O,Le.refl _ _,O,Y⟩)))))))
   ·exact psk 2 e O (wak 1 O (Pb e O (Pb O O (Nb O ((ag) ⟨false,W0,O,Le.refl _ _,O,Y⟩)))))
theorem p173 {x0 r}(Y:Vm.zeE x0=some r):Q1 173 [.int .u8 (UInt8.toNat x0:Int)] W [] fun W' v=>v=vB r:=
 (c173 (W0:=W.view [] []) Y).ad (fk 0) fun _ _ e=>e
theorem c113 {x0 r}(Y:Vm.zeQ x0=some r):Q0 113 [vS x0] W0 fun Wf v=>v=vB r:=by
 unfold Vm.zeQ at Y
 refine zaY.of Tryz.func113 O O O O (sr (Nb O (ssr (ms O (Lw.r O (R.lenS O) (ca Y (fun _=>p115) fun D e Y x=>?_))))))
 have f:=x.o
 refine Lw.r O (R.not O) (nl (cn Y (fun Y=>?_) fun Y=>?_))
 ·exact sr (Nb O (.ret (rt Y f)))
 ·refine sk (ssr (Ni O (Cw.block ?_)))
  obtain⟨y,z,Y⟩:=zdY Y
  refine Cw.loop 8 18 [2,3] (fun m l w=> ∃ a b d,CW.w d=w/\Le [] e d/\l=[vB a,vI b]/\Vm.zck x0 y m a b=some r) _ ⟨false,0,e,O,Le.refl _ _,O,Y⟩ ?_
  rintro(_ |E) _ _ σ ⟨a,b,d,rfl,h,rfl,Y⟩
  ·cases Y
  unfold Vm.zck at Y
  have i:=f.n h
  refine ssr (mi O (ms O (Lw.r O (R.lenS O) (Lw.lt O (nl (cn Y (fun Y=>?_) fun Y=>?_))))))
  ·refine sk (Cw.seq (Cw.block (sr (ms O (mi O ?_)))))
   obtain⟨F,A,Y⟩:=ob Y
   refine Lw.r O (R.chm A O O) (ca Y (fun _=>p173) fun G B Y k=>?_)
   have C:=i.n k
   refine Lw.r O (R.not O) (nl (cn Y (fun Y=>?_) fun Y=>?_))
   ·exact sr (Nb O (.ret (rt Y C)))
   ·exact sk (rg (mi O (Lw.add O (Ni O ((agm) ⟨a,w64 (b+1),B,O,(h.j k).w,O,Y⟩)))))
  ·refine Cw.exit ?_
   rw[z]at Y
   exact sr (Nb O (.ret (rt Y i)))
theorem p113 {x0 r}(Y:Vm.zeQ x0=some r):Q1 113 [vS x0] W [] fun W' v=>v=vB r:=
 (c113 (W0:=W.view [] []) Y).ad (fk 0) fun _ _ e=>e
theorem c202 {x0 r}(Y:Vm.zgi x0=some r):Q0 202 [vS x0] W0 fun Wf v=>v=vB r:=by
 unfold Vm.zgi at Y
 refine zaY.of Tryz.func202 O O O O (sr (Nb O (ssr (ms O (Lw.r O (R.lenS O) (Lw.gt O (nl (cn Y (fun Y=>?_) fun Y=>?_))))))))
 ·exact sr (Nb O (.ret (rt Y (Le.refl _ _))))
 ·refine sk (ssr (Ni O (Cw.block ?_)))
  obtain⟨x,y,Y⟩:=zdY Y
  refine Cw.loop 7 22 [2,3] (fun m l w=> ∃ d e a,CW.w a=w/\Le [] W0 a/\l=[vB d,vI e]/\Vm.zcl x0 x m d e=some r) _ ⟨false,0,W0,O,Le.refl _ _,O,Y⟩ ?_
  rintro(_ |F) _ _ σ ⟨d,e,a,rfl,i,rfl,Y⟩
  ·cases Y
  unfold Vm.zcl at Y
  have k:=i.o
  refine ssr (mi O (ms O (Lw.r O (R.lenS O) (Lw.lt O (nl (cn Y (fun Y=>?_) fun Y=>?_))))))
  ·refine sk (Cw.seq (Cw.block ?_))
   obtain⟨z,A,Y⟩:=zdY Y
   refine Cw.join 13 22 [22] (fun l w=> ∃ h f,CW.w f=w/\Le [] a f/\l=[vB h]/\z h=some r) ?_ ?_
   ·rintro _ _ σ ⟨h,f,rfl,l10,rfl,Y⟩
    rw[A]at Y
    have B:=k.n l10
    refine cn Y (fun Y=>?_) fun Y=>?_
    ·exact sr (Nb O (.ret (rt Y B)))
    ·exact sk (rg (mi O (Lw.add O (Ni O ((agm) ⟨d,w64 (e+1),f,O,(i.j l10).w,O,Y⟩)))))
   ·refine rg (ms O (mi O ?_))
    obtain⟨G,C,Y⟩:=ob Y
    refine Lw.r O (R.chm C O O) (Lw.lt O (mb O (bs Y (fun b Y=>?_) fun b Y=>?_)))
    ·exact psk 4 b O (Pb b O (nl ((ag) ⟨true,a,O,Le.refl _ _,O,Y⟩)))
    ·refine wak 4 b (ms O (mi O ?_))
     obtain⟨D,E,Y⟩:=ob Y
     exact Lw.r O (R.chm E O O) (Lw.gt O (Pb b O (nl ((ag) ⟨decide ((126:Int)< ((UInt8.toNat D:Int):Int)),a,O,Le.refl _ _,O,Y⟩))))
  ·refine Cw.exit ?_
   rw[y]at Y
   exact sr (Nb O (.ret (rt Y k)))
theorem p202 {x0 r}(Y:Vm.zgi x0=some r):Q1 202 [vS x0] W [] fun W' v=>v=vB r:=
 (c202 (W0:=W.view [] []) Y).ad (fk 0) fun _ _ e=>e
theorem c174 {x0 a r}(b:Rd W0 [0] [a] x0)(Y:Vm.zca x0=some r):Q0 174 [a] W0 fun Wf v=>v=vB r:=by
 unfold Vm.zca at Y
 refine zaY.of Tryz.func174 O O O O (sr (Nb O (ssr (mv a O (Lw.ln x0 b O (Lw.gt O (nl (cn Y (fun Y=>?_) fun Y=>?_))))))))
 ·exact sr (Nb O (.ret (rt Y (Le.refl _ _))))
 ·refine sk (ssr (mv a O (Lw.ln x0 b O (mi O (nl (Cw.block ?_))))))
  obtain⟨z,A,Y⟩:=zdY Y
  refine Cw.loop 10 17 [2,4,10] (fun m l w=> ∃ d e i h,CW.w h=w/\Le [] W0 h/\l=[vB d,i,vI e]/\Vm.zcm x0 z m d e=some r) _ ⟨false,0,undef,W0,O,Le.refl _ _,O,Y⟩ ?_
  rintro(_ |E) _ _ σ ⟨d,e,i,h,rfl,k,rfl,Y⟩
  ·cases Y
  unfold Vm.zcm at Y
  have f:=k.o
  refine sr (Lw.lt O (nl (Cw.seq (cn Y (fun Y=>?_) fun Y=>?_))))
  ·refine sk (Cw.seq (Cw.block (sr ?_)))
   obtain⟨B,x,Y⟩:=ob Y
   refine Lw.r O (R.ix (α:=Str) (b.ul f) x O O O) (Lw.r O (R.ld O O ((b.ul f).at_ x).str) (Ns O (sr (ms O (ca Y (fun _=>p202) fun F C Y y=>?_)))))
   have D:=f.n y
   refine Lw.r O (R.not O) (nl (cn Y (fun Y=>?_) fun Y=>?_))
   ·exact sr (Nb O (.ret (rt Y D)))
   ·exact sk (rg (Lw.add O (mi O (nl ((agm) ⟨d,w64 (e+1),vS B,C,O,(k.j y).w,O,Y⟩)))))
  ·refine Cw.exit ?_
   rw[A]at Y
   exact sr (Nb O (.ret (rt Y f)))
theorem p174 {x0 a r}(b:Rd W K [a] x0)(Y:Vm.zca x0=some r):Q1 174 [a] W [] fun W' v=>v=vB r:=
 (c174 (b.view _) Y).ad (fk 0) fun _ _ e=>e
theorem c162 {x0 r}(C:Gl 0 W0 [0])(Y:Vm.zfE x0=some r):Q0 162 [vS x0] W0 fun Wf v=>v=vB r:=by
 unfold Vm.zfE at Y
 refine zaY.of Tryz.func162 O O O O (sr (Nb O (sr (ms O (cr Y (fun _=>p196 (k0:=2) C) ?_)))))
 rintro f h k Y D ⟨_,rfl,a⟩
 have x:=D.o
 refine Nv h O (ssr (mv h O (Lw.ln f a.rd O (Lw.gt O (nl (cn Y (fun Y=>?_) fun Y=>?_))))))
 ·exact sr (Nb O (.ret (rt Y x)))
 ·refine sk (ssr (mv h O (Lw.ln f a.rd O (mi O (nl (Cw.block ?_))))))
  obtain⟨E,F,Y⟩:=zdY Y
  refine Cw.loop 13 20 [2,5,13] (fun m l w=> ∃ b d y i,CW.w i=w/\Le [] k i/\l=[vB b,y,vI d]/\Vm.zcn f E m b d=some r) _ ⟨false,0,undef,k,O,Le.refl _ _,O,Y⟩ ?_
  rintro(_ |J) _ _ σ ⟨b,d,y,i,rfl,e,rfl,Y⟩
  ·cases Y
  unfold Vm.zcn at Y
  have z:=x.n e
  refine sr (Lw.lt O (nl (Cw.seq (cn Y (fun Y=>?_) fun Y=>?_))))
  ·refine sk (Cw.seq (Cw.block (sr ?_)))
   obtain⟨G,A,Y⟩:=ob Y
   refine Lw.r O (R.ix (α:=Str) (a.up e).rd A O O O) (Lw.r O (R.ld O O ((a.up e).rd.at_ A).str) (Ns O (sr (ms O (ca Y (fun _=>p113) fun K H Y B=>?_)))))
   have I:=z.n B
   refine Lw.r O (R.not O) (nl (cn Y (fun Y=>?_) fun Y=>?_))
   ·exact sr (Nb O (.ret (rt Y I)))
   ·exact sk (rg (Lw.add O (mi O (nl ((agm) ⟨b,w64 (d+1),vS G,H,O,(e.j B).w,O,Y⟩)))))
  ·refine Cw.exit ?_
   rw[F]at Y
   exact sr (Nb O (.ret (rt Y z)))
theorem p162 {x0 r}(a:Gl 0 W K)(Y:Vm.zfE x0=some r):Q1 162 [vS x0] W [] fun W' v=>v=vB r:=
 (c162 (a.view _) Y).ad (fk 0) fun _ _ e=>e
theorem c170 {x0 x1 r}(h:Gl 0 W0 [0])(Y:Vm.zbC x0 x1=some r):Q0 170 [vS x0,vS x1] W0 fun Wf v=>v=vB r:=by
 unfold Vm.zbC at Y
 refine zaY.of Tryz.func170 O O O O (sr (Nb O ?_))
 obtain⟨k,x,Y⟩:=zdY Y
 refine Cw.join 5 16 [4] (fun l w=> ∃ e f,CW.w f=w/\Le [] W0 f/\l=[vB e]/\k e=some r) ?_ ?_
 ·rintro _ _ σ ⟨e,f,rfl,y,rfl,Y⟩
  rw[x]at Y
  have z:=y.o
  exact .ret (rt Y z)
 ·refine rg (ms O (ca Y (fun _=>p162 h) fun H A Y d=>?_))
  have B:=d.o
  refine mb O (bs Y (fun a Y=>?_) fun a Y=>?_)
  ·refine wak 2 a (ms O (ca Y (fun _=>p162 (h.ul B)) fun I C Y i=>Pb a O (mb O (bs Y (fun b Y=>?_) fun b Y=>?_))))
   ·refine wak 4 b (ms O (ms O ?_))
    obtain⟨J,D,Y⟩:=ob Y
    exact Lw.r O (R.sad D O O) (ca Y (fun _=>p201) fun E F Y G=>Pb b O (Nb O ((ag) ⟨E,F,O,((d.j i).j G).w,O,Y⟩)))
   ·exact psk 4 b O (Pb b O (Nb O ((ag) ⟨false,C,O,(d.j i).w,O,Y⟩)))
  ·exact psk 2 a O (Pb a O (mb O (psk 4 O O (Pb O O (Nb O ((ag) ⟨false,A,O,d,O,Y⟩))))))
theorem p170 {x0 x1 r}(a:Gl 0 W K)(Y:Vm.zbC x0 x1=some r):Q1 170 [vS x0,vS x1] W [] fun W' v=>v=vB r:=
 (c170 (a.view _) Y).ad (fk 0) fun _ _ e=>e
theorem c114 {x0 h r}(f:Rd W0 [0] [h] x0)(ac:Gl 0 W0 [0])(Y:Vm.zdM x0=some r):Q0 114 [h] W0 fun Wf v=>v=vB r:=by
 unfold Vm.zdM at Y
 refine zaY.of Tryz.func114 O O O O (sr (Nb O (ssr (mv h O (Lw.ln x0 f O (Lw.gt O (nl (cn Y (fun Y=>?_) fun Y=>?_))))))))
 ·exact sr (Nb O (.ret (rt Y (Le.refl _ _))))
 ·refine sk (ssr (mv h O (Lw.ln x0 f O (mi O (nl (Cw.block ?_))))))
  obtain⟨K8,av,Y⟩:=zdY Y
  refine Cw.loop 12 56 [2,3,4,6,12] (fun m l w=> ∃ B d j3 j4 J K,CW.w K=w/\Le [2,3] W0 K/\l=[vB B,j3,j4,J,vI d]/\Vm.zco x0 K8 m B d=some r) _ ⟨false,0,undef,undef,undef,W0,O,Le.refl _ _,O,Y⟩ ?_
  rintro(_ |m9) _ _ σ ⟨B,d,j3,j4,J,K,rfl,l7,rfl,Y⟩
  ·cases Y
  unfold Vm.zco at Y
  have i:=l7.s
  refine sr (Lw.lt O (nl (Cw.seq (cn Y (fun Y=>?_) fun Y=>?_))))
  ·refine sk (Cw.seq (Cw.block (sr (mi O ?_))))
   obtain⟨k,ai,Y⟩:=ob Y
   refine Lw.r O (R.ix (α:=File) (f.ul i) ai O O O) ?_
   obtain⟨x15,c16,_,r17⟩:=((f.ul i).at_ ai).cells
   obtain⟨bi,rfl,r19⟩:=File.split r17
   refine Lw.r O (R.lda c16 O O) (al 2 [vS ([]:Str), .slice none 0 0] fun aw bj aj ax=>?_)
   have C:=aj.o
   refine Gi O (sta ax (zai O (zai r19.oc zbt)) fun ay ak am=>?_)
   have D:=ak.s
   refine nl (Cw.seq ?_)
   obtain⟨az,a0,Y⟩:=zdY Y
   refine Cw.join 17 41 [41] (fun l w=> ∃ L z,CW.w z=w/\Le [] ay z/\l=[vB L]/\az L=some r) ?_ ?_
   ·rintro _ _ σ ⟨L,z,rfl,M,rfl,Y⟩
    rw[a0]at Y
    have E:=((i.trans C).trans D).n M
    refine cn Y (fun Y=>?_) fun Y=>?_
    ·exact sr (Nb O (.ret (rt Y E)))
    ·refine sk (sr (mv h O (mi O ?_)))
     obtain⟨an,ao,Y⟩:=ob Y
     have r34:=(f.ul E).cutV ao
     refine Lw.r O (R.sl (f.ul E) ao O (.inl ⟨O,O⟩) (.inr O)) (Lw.ln an r34 O (mi O (nl (Cw.block ?_))))
     obtain⟨a1,a2,Y⟩:=zdY Y
     refine Cw.loop 46 55 [2,6,46] (fun m l w=> ∃ A F N G,CW.w G=w/\Le [3] z G/\l=[vB A,N,vI F]/\Vm.zbg k an a1 m A F=some r) _ ⟨B,0,J,z,O,Le.refl _ _,O,Y⟩ ?_
     rintro(_ |bk) _ _ σ ⟨A,F,N,G,rfl,H,rfl,Y⟩
     ·cases Y
     unfold Vm.zbg at Y
     have P:=H.s
     refine sr (Lw.lt O (nl (Cw.seq (cn Y (fun Y=>?_) fun Y=>?_))))
     ·refine sk (Cw.seq (Cw.block (sr ?_)))
      obtain⟨bl,ap,Y⟩:=ob Y
      refine Lw.r O (R.ix (α:=File) (r34.ul P) ap O O O) ?_
      obtain⟨x47,c48,_,r49⟩:=((r34.ul P).at_ ap).cells
      obtain⟨bm,rfl,r51⟩:=File.split r49
      refine Lw.r O (R.lda c48 O O) (al 3 [vS ([]:Str), .slice none 0 0] fun a3 bn Q a4=>?_)
      have a5:=(E.trans P).n Q
      refine sta a4 (zai O (zai r51.oc zbt)) fun bp S a6=>?_
      have aq:=a5.t S
      refine nl (sr (fl a6 O (fl ((((am.up M).up H).up Q).up S) O (ca Y (fun _=>p170 (ac.ul aq)) fun bq a7 Y ar=>?_))))
      have a8:=aq.n ar
      refine nl (cn Y (fun Y=>?_) fun Y=>?_)
      ·exact sr (Nb O (.ret (rt Y a8)))
      ·exact sk (rg (Lw.add O (mi O (nl ((agm) ⟨A,w64 (F+1),ptr (bx a3),a7,O,(((H.j Q).j S).j ar).w,O,Y⟩)))))
     ·refine Cw.exit ?_
      rw[a2]at Y
      exact rg (Lw.add O (mi O (nl ((agm) ⟨A,w64 (d+1),vI d,ptr (bx aw),N,G,O,((((l7.j aj).j ak).j M).j H).w,O,Y⟩))))
   ·refine Cw.draw [] [(0,0),(1,1),(2,2),(3,0),(4,0),(5,0),(6,1),(7,2),(8,0),(9,0),(10,0),(11,0),(12,0),(13,0),(14,0),(15,0),(16,0),(17,0),(18,0),(19,1),(20,0),(21,1),(22,0),(23,0),(24,0)] mixed (by kernel_rfl) fun br x=>?_
    have U:=x.o
    have V:=am.up x
    refine Dfl V O O O ?_
    obtain⟨bu,a9,Y⟩:=ob Y
    refine Mw.t O O (T.call O (p174 (r19.ul ((C.trans D).trans U)) a9)) ?_
    rintro _ _ ⟨ba,rfl,y,rfl⟩
    have bb:=(((i.trans C).trans D).trans U).n y
    refine m0 y fun bc=>Mw.p O O (fun _=>R.not O) (Db O (bs Y (fun e Y=>?_) fun e Y=>?_))
    ·exact dps 4 e O (Mw.p O O (fun _=>R.pk e O (v:=vB true) O) (Db O (dps 3 O O (dpu 9 O (dps 1 O O (Mw.p O O (fun _=>R.pk O O (v:=vB true) O) (Mw.nil ((ag) ⟨true,ba,O,(x.j y).w,O,Y⟩))))))))
    ·refine Wp e O (fun _=>R.fa O) (Wq e O (fun _ c=>R.ld (v:=vS k.Path) O O (V.clc O O c)) ?_)
     obtain⟨be,bg,Y⟩:=ob Y
     refine Wt e O (T.call O (p162 (ac.ul bb) bg)) ?_
     rintro _ _ ⟨W,rfl,I,rfl⟩
     refine mc bc I fun bv=>Wp e O (fun _=>R.not O) (Mw.p O O (fun _=>R.pk e O (v:=vB (!be)) O) (Db O (bs Y (fun b Y=>?_) fun b Y=>?_)))
     ·exact dps 3 b O (dpu 9 O (dps 1 b O (Mw.p O O (fun _=>R.pk b O (v:=vB true) O) (Mw.nil ((ag) ⟨true,W,O,((x.j y).j I).w,O,Y⟩)))))
     ·refine Wp b O (fun _=>R.mv (v:=vI d) O) (Wp b O (fun _=>R.gt O O) (Wp b O (fun _=>R.mv (v:=vB (decide (0< (d:Int)))) O) (bs Y (fun a Y=>?_) fun a Y=>?_)))
      ·refine Wp a O (fun _=>R.mv (v:=h) O) (Wp a O (fun _=>R.mv (v:=vI d) O) (Wp a O (fun _=>R.sub O O) ?_))
       obtain⟨X,Z,Y⟩:=ob Y
       have aa:=f.ul (((i.trans C).trans D).trans U)
       exact Wp a O (fun _=>R.ix (α:=File) aa Z O O O) (Wp a O (fun _=>R.fa O) (Wq a O (fun _ c=>R.ld O O (zaW (File.at0 (aa.at_ Z)).1 O (File.at0 (aa.at_ Z)).str c)) (Wp a O (fun _=>R.fa O) (Wq a O (fun _ c=>R.ld (v:=vS k.Path) O O (V.clc O O c)) (Wp a O (fun _=>R.sge O O) (Wp b O (fun _=>R.pk a O (v:=vB (!Op.bytesLess X.Path k.Path)) O) (Mw.p O O (fun _=>R.pk b O (v:=vB (!Op.bytesLess X.Path k.Path)) O) (Mw.nil ((ag) ⟨(!Op.bytesLess X.Path k.Path),W,O,((x.j y).j I).w,O,Y⟩)))))))))
      ·exact dps 9 a O (Wp b O (fun _=>R.pk a O (v:=vB false) O) (Mw.p O O (fun _=>R.pk b O (v:=vB false) O) (Mw.nil ((ag) ⟨false,W,O,((x.j y).j I).w,O,Y⟩))))
  ·refine Cw.exit ?_
   rw[av]at Y
   exact sr (Nb O (.ret (rt Y i)))
theorem p114 {x0 a r}(b:Rd W K [a] x0)(d:Gl 0 W K)(Y:Vm.zdM x0=some r):Q1 114 [a] W [] fun W' v=>v=vB r:=
 (c114 (b.view _) (d.view _) Y).ad (fk 0) fun _ _ e=>e
theorem c89 {x0 a b x1 r}(f:Rd W0 [0] [a,b] x0)(Y:Vm.za8 x0 x1=some r):Q0 89 [.agg [a,b].toArray,vI x1] W0 fun Wf v=>v=vB r:=by
 unfold Vm.za8 at Y
 obtain⟨z,A,d,h,B⟩:=Repo.split f
 simp only[List.cons.injEq,and_true,true_and]at d
 obtain⟨rfl,rfl⟩:=d
 refine zaY.of Tryz.func89 O O O O (sr (bo 2 O fun C D i k=>?_))
 have e:=i.o
 refine Nb O (sr (mi O (fl k O (Lw.ln x0.Commits (h.ul e) O (Lw.sub O (ca Y (fun _=>p115) fun E F Y x=>?_))))))
 have y:=e.n x
 exact Nb O (.ret (rt Y y))
theorem p89 {x0 a b x1 r}(d:Rd W K [a,b] x0)(Y:Vm.za8 x0 x1=some r):Q1 89 [.agg [a,b].toArray,vI x1] W [] fun W' v=>v=vB r:=
 (c89 (d.view _) Y).ad (fk 0) fun _ _ e=>e
theorem c116 {x0 E F x1 k r}(h0:Rd W0 [0] [E,F] x0)(f:Rd W0 [0] [k] x1)(Y:Vm.zfq x0 x1=some r):Q0 116 [.agg [E,F].toArray,k] W0 fun Wf v=>v=vB r:=by
 unfold Vm.zfq at Y
 obtain⟨a3,a4,S,af,ah⟩:=Repo.split h0
 simp only[List.cons.injEq,and_true,true_and]at S
 obtain⟨rfl,rfl⟩:=S
 refine zaY.of Tryz.func116 O O O O (sr (bo 2 O fun g1 U l1 b1=>?_))
 have y:=l1.o
 refine Nb O (ssr (mv k O (Lw.ln x1 (f.ul y) O (Lw.gt O (nl (cn Y (fun Y=>?_) fun Y=>?_))))))
 ·exact sr (Nb O (.ret (rt Y y)))
 ·refine sk (ssr (mv k O (Lw.ln x1 (f.ul y) O (mi O (nl (Cw.block ?_))))))
  obtain⟨ak,am,Y⟩:=zdY Y
  refine Cw.loop 12 43 [4,5,6,12] (fun m l w=> ∃ z e V W G,CW.w G=w/\Le [3] U G/\l=[vB z,V,W,vI e]/\Vm.zbM x0 x1 ak m z e=some r) _ ⟨false,0,undef,undef,U,O,Le.refl _ _,O,Y⟩ ?_
  rintro(_ |a6) _ _ σ ⟨z,e,V,W,G,rfl,H,rfl,Y⟩
  ·cases Y
  unfold Vm.zbM at Y
  have A:=y.t H
  refine sr (Lw.lt O (nl (Cw.seq (cn Y (fun Y=>?_) fun Y=>?_))))
  ·refine sk (Cw.seq (Cw.block (sr (mi O ?_))))
   obtain⟨x,X,Y⟩:=ob Y
   refine Lw.r O (R.ix (α:=Head) (f.ul A) X O O O) ?_
   obtain⟨x18,c19,_,r20⟩:=((f.ul A).at_ X).cells
   obtain rfl:=Head.split r20
   refine Lw.r O (R.lda c19 O O) (al 3 [vS ([]:Str),vI 0] fun an a7 I ao=>?_)
   have ap:=A.n I
   refine Gi O (sta ao (zai O (zai O zbt)) fun aq J ar=>?_)
   have Z:=ap.t J
   refine nl ?_
   obtain⟨au,av,Y⟩:=zdY Y
   refine Cw.join 17 42 [42] (fun l w=> ∃ L B,CW.w B=w/\Le [] aq B/\l=[vB L]/\au L=some r) ?_ ?_
   ·rintro _ _ σ ⟨L,B,rfl,aa,rfl,Y⟩
    rw[av]at Y
    have aw:=Z.n aa
    refine cn Y (fun Y=>?_) fun Y=>?_
    ·exact sr (Nb O (.ret (rt Y aw)))
    ·exact sk (rg (Lw.add O (mi O (nl ((agm) ⟨z,w64 (e+1),vI e,ptr (bx an),B,O,(((H.j I).j J).j aa).w,O,Y⟩)))))
   ·refine Cw.draw [] [(0,0),(1,1),(2,2),(3,0),(4,0),(5,1),(6,0),(7,1),(8,2),(9,0),(10,0),(11,0),(12,0),(13,0),(14,0),(15,0),(16,0),(17,0),(18,0),(19,0),(20,1),(21,0),(22,1),(23,0),(24,0),(25,0)] mixed (by kernel_rfl) fun a8 h=>?_
    have C:=Z.n h
    have M:=ar.up h
    refine Dfl M O O O ?_
    obtain⟨a9,ax,Y⟩:=ob Y
    refine Mw.t O O (T.call O (p113 ax)) ?_
    rintro _ _ ⟨ay,rfl,i,rfl⟩
    have ac:=C.n i
    refine m0 i fun az=>Mw.p O O (fun _=>R.not O) (Db O (bs Y (fun d Y=>?_) fun d Y=>?_))
    ·exact dps 5 d O (Mw.p O O (fun _=>R.pk d O (v:=vB true) O) (Db O (dps 3 O O (dpu 9 O (dps 1 O O (Mw.p O O (fun _=>R.pk O O (v:=vB true) O) (Mw.nil ((ag) ⟨true,ay,O,(h.j i).w,O,Y⟩))))))))
    ·refine Wq d O (fun _ c=>R.lda (cs:=[E,F]) (((((b1.up H).up I).up J).up h).clcs O c) O O) (Wp d O (fun _=>R.fa O) (Wq d O (fun _ c=>R.ld (v:=vI x.At) O O (M.clc O O c)) ?_))
     obtain⟨a0,a1,Y⟩:=ob Y
     refine Wt d O (T.call O (p89 (Repo.rd (K:=[0]) x0.Commits x0.Heads (af.ul ac) (ah.ul ac)) a1)) ?_
     rintro _ _ ⟨N,rfl,D,rfl⟩
     refine mc az D fun ba=>Wp d O (fun _=>R.not O) (Mw.p O O (fun _=>R.pk d O (v:=vB (!a0)) O) (Db O (bs Y (fun b Y=>?_) fun b Y=>?_)))
     ·exact dps 3 b O (dpu 9 O (dps 1 b O (Mw.p O O (fun _=>R.pk b O (v:=vB true) O) (Mw.nil ((ag) ⟨true,N,O,((h.j i).j D).w,O,Y⟩)))))
     ·refine Wp b O (fun _=>R.mv (v:=vI e) O) (Wp b O (fun _=>R.gt O O) (Wp b O (fun _=>R.mv (v:=vB (decide (0< (e:Int)))) O) (bs Y (fun a Y=>?_) fun a Y=>?_)))
      ·refine Wp a O (fun _=>R.mv (v:=k) O) (Wp a O (fun _=>R.mv (v:=vI e) O) (Wp a O (fun _=>R.sub O O) ?_))
       obtain⟨P,Q,Y⟩:=ob Y
       exact Wp a O (fun _=>R.ix (α:=Head) (f.ul C) Q O O O) (Wp a O (fun _=>R.fa O) (Wq a O (fun _ c=>R.ld O O (zaW (Head.at0 ((f.ul C).at_ Q)).1 O (Head.at0 ((f.ul C).at_ Q)).str c)) (Wp a O (fun _=>R.fa O) (Wq a O (fun _ c=>R.ld (v:=vS x.Name) O O (M.clc O O c)) (Wp a O (fun _=>R.sge O O) (Wp b O (fun _=>R.pk a O (v:=vB (!Op.bytesLess P.Name x.Name)) O) (Mw.p O O (fun _=>R.pk b O (v:=vB (!Op.bytesLess P.Name x.Name)) O) (Mw.nil ((ag) ⟨(!Op.bytesLess P.Name x.Name),N,O,((h.j i).j D).w,O,Y⟩)))))))))
      ·exact dps 9 a O (Wp b O (fun _=>R.pk a O (v:=vB false) O) (Mw.p O O (fun _=>R.pk b O (v:=vB false) O) (Mw.nil ((ag) ⟨false,N,O,((h.j i).j D).w,O,Y⟩))))
  ·refine Cw.exit ?_
   rw[am]at Y
   exact sr (Nb O (.ret (rt Y A)))
theorem p116 {x0 a b x1 d r}(f:Rd W K [a,b] x0)(h:Rd W K [d] x1)(Y:Vm.zfq x0 x1=some r):Q1 116 [.agg [a,b].toArray,d] W [] fun W' v=>v=vB r:=
 (c116 (f.view _) (h.view _) Y).ad (fk 0) fun _ _ e=>e
theorem c43 {x0 ae af r}(h0:Rd W0 [0] [ae,af] x0)(ah:Gl 0 W0 [0])(Y:Vm.zdg x0=some r):Q0 43 [.agg [ae,af].toArray] W0 fun Wf v=>v=vB r:=by
 unfold Vm.zdg at Y
 obtain⟨b9,cb,ai,C,aj⟩:=Repo.split h0
 simp only[List.cons.injEq,and_true,true_and]at ai
 obtain⟨rfl,rfl⟩:=ai
 refine zaY.of Tryz.func43 O O O O (sr (bo 2 O fun g1 W1 l1 G=>?_))
 have H:=l1.o
 refine Nb O (ssr (fl G O (Lw.ln x0.Commits (C.ul H) O (Lw.gt O (nl (cn Y (fun Y=>?_) fun Y=>?_))))))
 ·exact sr (Nb O (.ret (rt Y H)))
 ·refine sk (ssr (fl G O (Lw.ln x0.Commits (C.ul H) O (mi O (nl (Cw.block ?_))))))
  obtain⟨bb,bc,Y⟩:=zdY Y
  refine Cw.loop 14 65 [2,3,4,6,14] (fun m l w=> ∃ I B j6 j7 Q S,CW.w S=w/\Le [3] W1 S/\l=[vB I,j6,j7,Q,vI B]/\Vm.zcp x0 bb m I B=some r) _ ⟨false,0,undef,undef,undef,W1,O,Le.refl _ _,O,Y⟩ ?_
  rintro(_ |cd) _ _ σ ⟨I,B,j6,j7,Q,S,rfl,l10,rfl,Y⟩
  ·cases Y
  unfold Vm.zcp at Y
  have d:=H.t l10
  refine sr (Lw.lt O (nl (Cw.seq (cn Y (fun Y=>?_) fun Y=>?_))))
  ·refine sk (Cw.seq (Cw.block (sr (mi O ?_))))
   obtain⟨A,ao,Y⟩:=ob Y
   refine Lw.r O (R.ix (α:=Commit) (C.ul d) ao O O O) ?_
   obtain⟨x19,c20,_,r21⟩:=((C.ul d).at_ ao).cells
   obtain⟨U,ap,rfl,r23,r25⟩:=Commit.split r21
   refine Lw.r O (R.lda c20 O O) (al 3 [.slice none 0 0,vS ([]:Str), .slice none 0 0] fun be ce aq bg=>?_)
   have e:=aq.o
   refine Gi O (sta bg (zai r23.oc (zai O (zai r25.oc zbt))) fun bh ar au=>?_)
   have f:=ar.s
   refine nl (Cw.seq ?_)
   obtain⟨bi,bj,Y⟩:=zdY Y
   refine Cw.join 19 51 [51] (fun l w=> ∃ V D,CW.w D=w/\Le [] bh D/\l=[vB V]/\bi V=some r) ?_ ?_
   ·rintro _ _ σ ⟨V,D,rfl,W,rfl,Y⟩
    rw[bj]at Y
    have J:=W.o
    refine cn Y (fun Y=>?_) fun Y=>?_
    ·exact sr (Nb O (.ret (rt Y (((d.trans e).trans f).trans J))))
    ·refine sk (sr (fl (au.up W) O (Lw.ln A.Parents (r23.ul ((e.trans f).trans J)) O (mi O (nl (Cw.block ?_))))))
     obtain⟨bk,bl,Y⟩:=zdY Y
     refine Cw.loop 55 64 [2,6,55] (fun m l w=> ∃ E L X M,CW.w M=w/\Le [] D M/\l=[vB E,X,vI L]/\Vm.zbh B A bk m E L=some r) _ ⟨I,0,Q,D,O,Le.refl _ _,O,Y⟩ ?_
     rintro(_ |cf) _ _ σ ⟨E,L,X,M,rfl,Z,rfl,Y⟩
     ·cases Y
     unfold Vm.zbh at Y
     have av:=Z.o
     refine sr (Lw.lt O (nl (Cw.seq (cn Y (fun Y=>?_) fun Y=>?_))))
     ·refine sk (Cw.seq (Cw.block (sr ?_)))
      obtain⟨bm,aw,Y⟩:=ob Y
      have ax:=r23.ul (((e.trans f).trans J).trans av)
      refine Lw.r O (R.ix (α:=Int) ax aw O O O) (Lw.r O (R.ld O O (ax.at_ aw).int) (Ni O (sr (mi O (mi O (Lw.sub O (ca Y (fun _=>p115) fun cg bn Y ay=>?_)))))))
      have bp:=((((d.trans e).trans f).trans J).trans av).n ay
      refine Lw.r O (R.not O) (nl (cn Y (fun Y=>?_) fun Y=>?_))
      ·exact sr (Nb O (.ret (rt Y bp)))
      ·exact sk (rg (Lw.add O (mi O (nl ((agm) ⟨E,w64 (L+1),vI bm,bn,O,(Z.j ay).w,O,Y⟩)))))
     ·refine Cw.exit ?_
      rw[bl]at Y
      exact rg (Lw.add O (mi O (nl ((agm) ⟨E,w64 (B+1),vI B,ptr (bx be),X,M,O,((((l10.j aq).j ar).j W).j Z).w,O,Y⟩))))
   ·refine Cw.draw [] [(0,0),(1,1),(2,0),(3,0),(4,0),(5,0),(6,1),(7,0),(8,0),(9,0),(10,0),(11,1),(12,0),(13,1),(14,0),(15,1),(16,0),(17,1),(18,0),(19,0),(20,0),(21,0),(22,0),(23,1),(24,2),(25,0),(26,0),(27,0),(28,0),(29,1),(30,2),(31,0),(32,0)] mixed (by kernel_rfl) fun az h=>?_
    have F:=h.o
    have i:=au.up h
    have k:=r23.ul ((e.trans f).trans F)
    refine Dfl i O O O (Mw.p O O (fun _=>zp7 (xs:=A.Parents) k O) (Mw.p O O (fun _=>R.gt O O) (Db O (bs Y (fun a Y=>?_) fun a Y=>?_))))
    ·exact dps 5 a O (dpu 9 O (dps 1 a O (Mw.p O O (fun _=>R.pk a O (v:=vB true) O) (Db O (dps 4 O O (Mw.p O O (fun _=>R.pk O O (v:=vB true) O) (Db O (dps 4 O O (Mw.p O O (fun _=>R.pk O O (v:=vB true) O) (Mw.nil ((ag) ⟨true,az,O,h,O,Y⟩)))))))))))
    ·refine Wp a O (fun _=>R.fa O) (Wq a O (fun _ c=>R.ld (v:=U) O O (i.clc O O c)) (Wp a O (fun _=>zp7 (xs:=A.Parents) k O) (Wp a O (fun _=>R.eq O O) (Wp a O (fun _=>R.mv (v:=vB ((A.Parents.length:Int)==2)) O) (bs Y (fun b Y=>?_) fun b Y=>?_)))))
     ·refine Wp b O (fun _=>R.fa O) (Wq b O (fun _ c=>R.ld (v:=U) O O (i.clc O O c)) ?_)
      obtain⟨a0,aa,Y⟩:=ob Y
      refine Wp b O (fun _=>R.ix (α:=Int) k aa O O O) (Wq b O (fun _ c=>R.ld O O (zaW (k.at_ aa).1 O (k.at_ aa).int c)) (Wp b O (fun _=>R.fa O) (Wq b O (fun _ c=>R.ld (v:=U) O O (i.clc O O c)) ?_)))
      obtain⟨a1,ac,Y⟩:=ob Y
      refine Wp b O (fun _=>R.ix (α:=Int) k ac O O O) (Wq b O (fun _ c=>R.ld O O (zaW (k.at_ ac).1 O (k.at_ ac).int c)) (Wp b O (fun _=>R.eq O O) (Wp a O (fun _=>R.pk b O (v:=vB ((a0:Int)==(a1:Int))) O) (Mw.p O O (fun _=>R.pk a O (v:=vB ((a0:Int)==(a1:Int))) O) (Db O (bs Y (fun x Y=>?_) fun x Y=>?_))))))
      ·exact dps 4 x O (Mw.p O O (fun _=>R.pk x O (v:=vB true) O) (Db O (dps 4 O O (Mw.p O O (fun _=>R.pk O O (v:=vB true) O) (Mw.nil ((ag) ⟨true,az,O,h,O,Y⟩))))))
      ·refine Wp x O (fun _=>R.fa O) (Wq x O (fun _ c=>R.ld (v:=vS A.Who) O O (i.clc O O c)) ?_)
       obtain⟨bq,br,Y⟩:=ob Y
       refine Wt x O (T.call O (p113 br)) ?_
       rintro _ _ ⟨bu,rfl,N,rfl⟩
       have a3:=N.o
       refine m0 N fun bv=>Wp x O (fun _=>R.not O) (Mw.p O O (fun _=>R.pk x O (v:=vB (!bq)) O) (Db O (bs Y (fun y Y=>?_) fun y Y=>?_)))
       ·exact dps 4 y O (Mw.p O O (fun _=>R.pk y O (v:=vB true) O) (Mw.nil ((ag) ⟨true,bu,O,(h.j N).w,O,Y⟩)))
       ·refine Wp y O (fun _=>R.fa O) (Wq y O (fun _ c=>R.ld (v:=ap) O O (i.clc O O c)) ?_)
        obtain⟨a4,bw,Y⟩:=ob Y
        refine Wt y O (T.call O (p114 (r25.ul (((e.trans f).trans F).trans a3)) (ah.ul ((((d.trans e).trans f).trans F).trans a3)) bw)) ?_
        rintro _ _ ⟨bz,rfl,a5,rfl⟩
        exact mc bv a5 fun ch=>Wp y O (fun _=>R.not O) (Mw.p O O (fun _=>R.pk y O (v:=vB (!a4)) O) (Mw.nil ((ag) ⟨(!a4),bz,O,((h.j N).j a5).w,O,Y⟩)))
     ·refine dps 9 b O (Wp a O (fun _=>R.pk b O (v:=vB false) O) (Mw.p O O (fun _=>R.pk a O (v:=vB false) O) (Db O (Wp O O (fun _=>R.fa O) (Wq O O (fun _ c=>R.ld (v:=vS A.Who) O O (i.clc O O c)) ?_)))))
      obtain⟨b0,b2,Y⟩:=ob Y
      refine Wt O O (T.call O (p113 b2)) ?_
      rintro _ _ ⟨b3,rfl,P,rfl⟩
      have a6:=P.o
      refine m0 P fun b4=>Wp O O (fun _=>R.not O) (Mw.p O O (fun _=>R.pk O O (v:=vB (!b0)) O) (Db O (bs Y (fun z Y=>?_) fun z Y=>?_)))
      ·exact dps 4 z O (Mw.p O O (fun _=>R.pk z O (v:=vB true) O) (Mw.nil ((ag) ⟨true,b3,O,(h.j P).w,O,Y⟩)))
      ·refine Wp z O (fun _=>R.fa O) (Wq z O (fun _ c=>R.ld (v:=ap) O O (i.clc O O c)) ?_)
       obtain⟨a7,b5,Y⟩:=ob Y
       refine Wt z O (T.call O (p114 (r25.ul (((e.trans f).trans F).trans a6)) (ah.ul ((((d.trans e).trans f).trans F).trans a6)) b5)) ?_
       rintro _ _ ⟨b6,rfl,a8,rfl⟩
       exact mc b4 a8 fun ci=>Wp z O (fun _=>R.not O) (Mw.p O O (fun _=>R.pk z O (v:=vB (!a7)) O) (Mw.nil ((ag) ⟨(!a7),b6,O,((h.j P).j a8).w,O,Y⟩)))
  ·refine Cw.exit ?_
   rw[bc]at Y
   refine sr (la (G.up l10) (fl (G.up l10) O (ca Y (fun _=>p116 (Repo.rd (K:=[0]) x0.Commits x0.Heads (C.ul d) (aj.ul d)) (aj.ul d)) fun cj ck Y b7=>?_)))
   have b8:=d.n b7
   exact Nb O (.ret (rt Y b8))
theorem p43 {x0 a b r}(d:Rd W K [a,b] x0)(f:Gl 0 W K)(Y:Vm.zdg x0=some r):Q1 43 [.agg [a,b].toArray] W [] fun W' v=>v=vB r:=
 (c43 (d.view _) (f.view _) Y).ad (fk 0) fun _ _ e=>e
end Go.Sx
