/- Walks: each function answers as its model, printed by a program of ours. Conditions: the arguments read as they are given. -/
import Derived.Test.YtmjjhnahdmlmaaaDoorXTs
import Derived.Test.YtmjjhnahdmlmaaaDoorXMd
import Derived.Test.YtmjjhnahdmlmaaaDoorXW0
namespace Go.Sx
open Go Go.Proofs Go.Vm Rp
set_option linter.unusedVariables false
set_option linter.unusedSimpArgs false

theorem c102 {V : CW} {x0 : Str} {r : Bool}  (hm : Vm.spec_l4Name x0 = some r) : CallR Tryd.prog 102 [vS x0].toArray V.w (Res V LL fun Wf v => v = vB r) := by
 unfold Vm.spec_l4Name at hm
 obtain ⟨W0, hW0⟩ : ∃ W, W = V := ⟨V, rfl⟩
 subst hW0
 refine CallR.of Tryd.func102 rfl rfl rfl rfl (Cw.seq (Cw.region (Lw.g (vB false) rfl (Lw.nil (Cw.seq (Cw.seq (Cw.region (Lw.g (vI 0) rfl (Lw.nil (Cw.block ?_))))))))))
 obtain ⟨K4, hK4, hm⟩ := jn_e hm
 refine Cw.loop 4 31 [2, 3] (fun m l w => ∃ (y1 : Bool) (y2 : Int) (W3 : CW), W3.w = w ∧ Le [] W0 W3 ∧ l = [vB y1, vI y2] ∧ Vm.spec_l4Name_l1 x0 K4 m y1 y2 = some r) (((x0.length : Int) - 0).toNat + 1) ⟨false, 0, W0, rfl, Le.refl _ _, rfl, hm⟩ ?_
 rintro m5 _ _ σ ⟨y1, y2, W3, rfl, l3, rfl, hm⟩
 obtain _ | m5 := m5
 ·cases hm
 unfold Vm.spec_l4Name_l1 at hm
 have a6 := l3.o
 refine Cw.seq (Cw.seq (Cw.region (Lw.m (vI y2) rfl (Lw.m (vS x0) rfl (Lw.r rfl (R.lenS rfl) (Lw.lt rfl (Lw.nil (Cw.cond (b := decide ((y2 : Int) < ((x0.length : Int) : Int))) rfl (fun hc7 => ?_) (fun hc7 => ?_)))))))))
 ·replace hm := bt hm hc7
  refine Cw.skip (Cw.seq (Cw.block ?_))
  obtain ⟨K10, hK10, hm⟩ := jn_e hm
  refine Cw.join 10 31 [31] (fun l w => ∃ (y8 : Bool) (W9 : CW), W9.w = w ∧ Le [] W3 W9 ∧ l = [vB y8] ∧ K10 y8 = some r) ?_ ?_
  ·rintro _ _ σ ⟨y8, W9, rfl, l9, rfl, hm⟩
   rw [hK10] at hm
   have a11 := a6.n l9
   refine Cw.cond (b := y8) rfl (fun hc12 => ?_) (fun hc12 => ?_)
   ·replace hm := bt hm hc12
    refine Cw.seq (Cw.region (Lw.g (vB false) rfl (Lw.nil ?_)))
    cases hm
    exact Cw.ret (ret1 rfl (Res.mk a11 rfl))
   ·replace hm := bf hm hc12
    refine Cw.skip (Cw.region (Lw.m (vI y2) rfl (Lw.add rfl (Lw.g (vI (w64 (y2 + 1))) rfl (Lw.nil (⟨?_, m5, Nat.lt_succ_self m5, ⟨y1, w64 (y2 + 1), W9, rfl, (l3.trans l9), rfl, hm⟩⟩))))))
    iterate 4 (refine .u ?_)
    refine Agree.ov0 rfl ?_
    iterate 6 (refine .u ?_)
    exact Agree.base
  ·refine Cw.region (Lw.m (vS x0) rfl (Lw.m (vI y2) rfl ?_))
   obtain ⟨u13, e14, hm⟩ := ob hm
   refine Lw.r rfl (R.chm e14 rfl rfl) (Lw.lt rfl (Lw.m (vB (decide (((UInt8.toNat u13 : Int) : Int) < (97 : Int)))) rfl (bsplit (decide (((UInt8.toNat u13 : Int) : Int) < (97 : Int))) (fun hc15 => ?_) (fun hc15 => ?_))))
   ·replace hm := bt hm hc15
    refine Lw.ps hc15 rfl (Lw.ps hc15 rfl (Lw.ps hc15 rfl (Lw.ps hc15 rfl (Lw.p hc15 (vB true) rfl (Lw.m (vB true) rfl (Lw.wa rfl rfl (Lw.m (vS x0) rfl (Lw.wa rfl rfl (Lw.m (vI y2) rfl (Lw.wa rfl rfl ?_))))))))))
    obtain ⟨u16, e17, hm⟩ := ob hm
    refine Lw.r rfl (R.chm e17 rfl rfl) (Lw.wa rfl rfl (Lw.lt rfl (Lw.wa rfl rfl (Lw.m (vB (decide (((UInt8.toNat u16 : Int) : Int) < (48 : Int)))) rfl (bsplit (decide (((UInt8.toNat u16 : Int) : Int) < (48 : Int))) (fun hc18 => ?_) (fun hc18 => ?_))))))
    ·replace hm := bt hm hc18
     refine Lw.ps hc18 rfl (Lw.ps hc18 rfl (Lw.ps hc18 rfl (Lw.ps hc18 rfl (Lw.wa rfl rfl (Lw.p hc18 (vB true) rfl (Lw.p rfl (vB true) rfl (Lw.nil (⟨?_, ⟨true, W3, rfl, Le.refl _ _, rfl, hm⟩⟩))))))))
     iterate 22 (refine .u ?_)
     exact Agree.refl _
    ·replace hm := bf hm hc18
     refine Lw.wa hc18 rfl (Lw.m (vS x0) rfl (Lw.wa hc18 rfl (Lw.m (vI y2) rfl (Lw.wa hc18 rfl ?_))))
     obtain ⟨u19, e20, hm⟩ := ob hm
     refine Lw.r rfl (R.chm e20 rfl rfl) (Lw.wa hc18 rfl (Lw.gt rfl (Lw.wa rfl rfl (Lw.p hc18 (vB (decide ((57 : Int) < ((UInt8.toNat u19 : Int) : Int)))) rfl (Lw.p rfl (vB (decide ((57 : Int) < ((UInt8.toNat u19 : Int) : Int)))) rfl (Lw.nil (⟨?_, ⟨decide ((57 : Int) < ((UInt8.toNat u19 : Int) : Int)), W3, rfl, Le.refl _ _, rfl, hm⟩⟩)))))))
     iterate 22 (refine .u ?_)
     exact Agree.refl _
   ·replace hm := bf hm hc15
    refine Lw.wa hc15 rfl (Lw.m (vS x0) rfl (Lw.wa hc15 rfl (Lw.m (vI y2) rfl (Lw.wa hc15 rfl ?_))))
    obtain ⟨u21, e22, hm⟩ := ob hm
    refine Lw.r rfl (R.chm e22 rfl rfl) (Lw.wa hc15 rfl (Lw.gt rfl (Lw.p hc15 (vB (decide ((122 : Int) < ((UInt8.toNat u21 : Int) : Int)))) rfl (Lw.m (vB (decide ((122 : Int) < ((UInt8.toNat u21 : Int) : Int)))) rfl (bsplit (decide ((122 : Int) < ((UInt8.toNat u21 : Int) : Int))) (fun hc23 => ?_) (fun hc23 => ?_))))))
    ·replace hm := bt hm hc23
     refine Lw.wa hc23 rfl (Lw.m (vS x0) rfl (Lw.wa hc23 rfl (Lw.m (vI y2) rfl (Lw.wa hc23 rfl ?_))))
     obtain ⟨u24, e25, hm⟩ := ob hm
     refine Lw.r rfl (R.chm e25 rfl rfl) (Lw.wa hc23 rfl (Lw.lt rfl (Lw.wa hc23 rfl (Lw.m (vB (decide (((UInt8.toNat u24 : Int) : Int) < (48 : Int)))) rfl (bsplit (decide (((UInt8.toNat u24 : Int) : Int) < (48 : Int))) (fun hc26 => ?_) (fun hc26 => ?_))))))
     ·replace hm := bt hm hc26
      refine Lw.ps hc26 rfl (Lw.ps hc26 rfl (Lw.ps hc26 rfl (Lw.ps hc26 rfl (Lw.wa hc23 rfl (Lw.p hc26 (vB true) rfl (Lw.p hc23 (vB true) rfl (Lw.nil (⟨?_, ⟨true, W3, rfl, Le.refl _ _, rfl, hm⟩⟩))))))))
      iterate 22 (refine .u ?_)
      exact Agree.refl _
     ·replace hm := bf hm hc26
      refine Lw.wa hc26 rfl (Lw.m (vS x0) rfl (Lw.wa hc26 rfl (Lw.m (vI y2) rfl (Lw.wa hc26 rfl ?_))))
      obtain ⟨u27, e28, hm⟩ := ob hm
      refine Lw.r rfl (R.chm e28 rfl rfl) (Lw.wa hc26 rfl (Lw.gt rfl (Lw.wa hc23 rfl (Lw.p hc26 (vB (decide ((57 : Int) < ((UInt8.toNat u27 : Int) : Int)))) rfl (Lw.p hc23 (vB (decide ((57 : Int) < ((UInt8.toNat u27 : Int) : Int)))) rfl (Lw.nil (⟨?_, ⟨decide ((57 : Int) < ((UInt8.toNat u27 : Int) : Int)), W3, rfl, Le.refl _ _, rfl, hm⟩⟩)))))))
      iterate 22 (refine .u ?_)
      exact Agree.refl _
    ·replace hm := bf hm hc23
     refine Lw.ps hc23 rfl (Lw.ps hc23 rfl (Lw.ps hc23 rfl (Lw.ps hc23 rfl (Lw.ps hc23 rfl (Lw.pu rfl (Lw.pu rfl (Lw.pu rfl (Lw.pu rfl (Lw.ps hc23 rfl (Lw.p hc23 (vB false) rfl (Lw.nil (⟨?_, ⟨false, W3, rfl, Le.refl _ _, rfl, hm⟩⟩))))))))))))
     iterate 22 (refine .u ?_)
     exact Agree.refl _
 ·replace hm := bf hm hc7
  refine Cw.exit ?_
  rw [hK4] at hm
  refine Cw.seq (Cw.region (Lw.m (vS x0) rfl (Lw.r rfl (R.lenS rfl) ?_)))
  obtain ⟨z29, e30, hm⟩ := ob hm
  refine Lw.t rfl (T.call rfl (p87 (K := [0])   e30)) ?_
  rintro _ _ ⟨W31, rfl, l31, rfl⟩
  have a32 := a6.n l31
  refine Lw.g (vB z29) rfl (Lw.nil ?_)
  cases hm
  exact Cw.ret (ret1 rfl (Res.mk a32 rfl))

theorem p102 {W : CW} {K : List Nat} {x0 : Str} {r : Bool}  (hm : Vm.spec_l4Name x0 = some r) : CallR Tryd.prog 102 [vS x0].toArray W.w (Res W [] fun W' v => v = vB r) :=
 (c102 (V := W.view K [])  hm).ad (fk 0) fun _ _ e => e

theorem c93 {V : CW} {x0 : Str} {x1 : Byte} {x2 : Int} {r : (List Str)}  (hm : Vm.spec_l1Cut x0 x1 x2 = some r) : CallR Tryd.prog 93 [vS x0, .int .u8 (UInt8.toNat x1 : Int), vI x2].toArray V.w (Res V LL fun Wf v => ∃ (u0 : Value), v = u0 ∧ OwS Wf LL [] [u0] r) := by
 unfold Vm.spec_l1Cut at hm
 obtain ⟨W0, hW0⟩ : ∃ W, W = V := ⟨V, rfl⟩
 subst hW0
 refine CallR.of Tryd.func93 rfl rfl rfl rfl (Cw.seq (Cw.region (Lw.g (.slice none 0 0) rfl (Lw.nil (Cw.seq (Cw.region (Lw.t rfl (T.lit0 (α := Str) 2 []) ?_)))))))
 rintro v1 _ ⟨W1, rfl, l1, o1⟩
 have a2 := l1.o
 refine Lw.g v1 rfl (Lw.nil (Cw.seq (Cw.region (Lw.g (vI 0) rfl (Lw.nil (Cw.seq (Cw.seq (Cw.region (Lw.g (vI 0) rfl (Lw.nil (Cw.block ?_)))))))))))
 obtain ⟨K9, hK9, hm⟩ := jn_e hm
 refine Cw.loop 11 36 [7, 8, 9] (fun m l w => ∃ (y3 : List Str) (y6 : Int) (y7 : Int) (v4 : Value) (W8 : CW), W8.w = w ∧ Le [2] W1 W8 ∧ l = [v4, vI y6, vI y7] ∧ Ow W8 2 [] [v4] y3 ∧ Vm.spec_l1Cut_l1 x0 x1 x2 K9 m y3 y6 y7 = some r) (x0.length + 1) ⟨([] : List Str), 0, 0, v1, W1, rfl, Le.refl _ _, rfl, o1, hm⟩ ?_
 rintro m10 _ _ σ ⟨y3, y6, y7, v4, W8, rfl, l8, rfl, o5, hm⟩
 obtain _ | m10 := m10
 ·cases hm
 unfold Vm.spec_l1Cut_l1 at hm
 have a11 := a2.t l8 rfl
 refine Cw.seq ?_
 obtain ⟨K14, hK14, hm⟩ := jn_e hm
 refine Cw.join 11 20 [20] (fun l w => ∃ (y12 : Bool) (W13 : CW), W13.w = w ∧ Le [] W8 W13 ∧ l = [vB y12] ∧ K14 y12 = some r) ?_ ?_
 ·rintro _ _ σ ⟨y12, W13, rfl, l13, rfl, hm⟩
  rw [hK14] at hm
  have a15 := a11.n l13
  have o16 := o5.up l13 rfl
  refine Cw.cond (b := y12) rfl (fun hc17 => ?_) (fun hc17 => ?_)
  ·replace hm := bt hm hc17
   refine Cw.skip ?_
   obtain ⟨K23, hK23, hm⟩ := jn_e hm
   refine Cw.join 23 36 [7, 8] (fun l w => ∃ (y18 : List Str) (y21 : Int) (v19 : Value) (W22 : CW), W22.w = w ∧ Le [2] W13 W22 ∧ l = [v19, vI y21] ∧ Ow W22 2 [] [v19] y18 ∧ K23 y18 y21 = some r) ?_ ?_
   ·rintro _ _ σ ⟨y18, y21, v19, W22, rfl, l22, rfl, o20, hm⟩
    rw [hK23] at hm
    refine Cw.region (Lw.m (vI y7) rfl (Lw.add rfl (Lw.g (vI (w64 (y7 + 1))) rfl (Lw.nil (⟨?_, m10, Nat.lt_succ_self m10, ⟨y18, y21, w64 (y7 + 1), v19, W22, rfl, (l8.trans ((l13.sub rfl).trans l22)), rfl, o20, hm⟩⟩)))))
    iterate 5 (refine .u ?_)
    refine Agree.ov0 rfl ?_
    iterate 1 (refine .u ?_)
    refine Agree.ov0 rfl ?_
    iterate 3 (refine .u ?_)
    exact Agree.base
   ·refine Cw.block (Cw.seq (Cw.region (Lw.m (vS x0) rfl (Lw.m (vI y7) rfl ?_))))
    obtain ⟨u25, e26, hm⟩ := ob hm
    refine Lw.r rfl (R.chm e26 rfl rfl) (Lw.m (.int .u8 (UInt8.toNat x1 : Int)) rfl (Lw.eq rfl (Lw.nil (Cw.cond (b := (((UInt8.toNat u25 : Int) : Int) == ((UInt8.toNat x1 : Int) : Int))) rfl (fun hc27 => ?_) (fun hc27 => ?_)))))
    ·replace hm := bt hm hc27
     refine Cw.seq (Cw.region (Lw.m v4 rfl (Lw.m (vS x0) rfl (Lw.m (vI y6) rfl (Lw.m (vI y7) rfl ?_)))))
     obtain ⟨q28, e29, hm⟩ := ob hm
     refine Lw.r rfl (R.ss e29 rfl (.inr rfl) (.inr rfl)) (Lw.t rfl (T.bs 3 [vS q28] (cs := [vS q28]) rfl rfl (bsv rfl)) ?_)
     rintro _ _ ⟨g30, W30, rfl, rfl, l30, b30⟩
     obtain ⟨q33, e34, hm⟩ := ob hm
     refine Lw.t rfl (T.app1S (α := Str) (K' := []) (o16.up l30 rfl) b30 (rdS _) rfl rfl e34) ?_
     rintro v35 _ ⟨W35, rfl, l35, o35⟩
     refine Lw.g v35 rfl (Lw.nil (Cw.region (Lw.m (vI y7) rfl (Lw.add rfl (Lw.g (vI (w64 (y7 + 1))) rfl (Lw.nil (⟨?_, ⟨q33, w64 (y7 + 1), v35, W35, rfl, ((l30.sub rfl).trans l35), rfl, o35, hm⟩⟩)))))))
     iterate 16 (refine .u ?_)
     exact Agree.refl _
    ·replace hm := bf hm hc27
     refine Cw.skip (⟨?_, ⟨y3, y6, v4, W13, rfl, Le.refl _ _, rfl, o16, hm⟩⟩)
     iterate 5 (refine .u ?_)
     exact Agree.refl _
  ·replace hm := bf hm hc17
   refine Cw.exit ?_
   rw [hK9] at hm
   refine Cw.seq (Cw.region (Lw.m v4 rfl (Lw.m (vS x0) rfl (Lw.m (vI y6) rfl ?_))))
   obtain ⟨q38, e39, hm⟩ := ob hm
   refine Lw.r rfl (R.ss e39 rfl (.inr rfl) (.inl ⟨rfl, rfl⟩)) (Lw.t rfl (T.bs 4 [vS q38] (cs := [vS q38]) rfl rfl (bsv rfl)) ?_)
   rintro _ _ ⟨g40, W40, rfl, rfl, l40, b40⟩
   have a41 := a15.n l40
   obtain ⟨q43, e44, hm⟩ := ob hm
   refine Lw.t rfl (T.app1S (α := Str) (K' := []) (o16.up l40 rfl) b40 (rdS _) rfl rfl e44) ?_
   rintro v45 _ ⟨W45, rfl, l45, o45⟩
   have a46 := a41.t l45 rfl
   refine Lw.g v45 rfl (Lw.nil ?_)
   cases hm
   exact Cw.ret (ret1 rfl (Res.mk a46 ⟨v45, rfl, o45.s.sub rfl rfl⟩))
 ·refine Cw.region (Lw.m (vI y7) rfl (Lw.m (vS x0) rfl (Lw.r rfl (R.lenS rfl) (Lw.lt rfl (Lw.m (vB (decide ((y7 : Int) < ((x0.length : Int) : Int)))) rfl (bsplit (decide ((y7 : Int) < ((x0.length : Int) : Int))) (fun hc48 => ?_) (fun hc48 => ?_)))))))
  ·replace hm := bt hm hc48
   refine Lw.wa hc48 rfl (Lw.m v4 rfl (Lw.wa hc48 rfl (Lw.ln y3 o5.rd rfl (Lw.wa hc48 rfl (Lw.m (vI x2) rfl (Lw.wa hc48 rfl (Lw.lt rfl (Lw.p hc48 (vB (decide (((y3.length : Int) : Int) < (x2 : Int)))) rfl (Lw.nil (⟨?_, ⟨decide (((y3.length : Int) : Int) < (x2 : Int)), W8, rfl, Le.refl _ _, rfl, hm⟩⟩))))))))))
   iterate 10 (refine .u ?_)
   exact Agree.refl _
  ·replace hm := bf hm hc48
   refine Lw.ps hc48 rfl (Lw.ps hc48 rfl (Lw.ps hc48 rfl (Lw.ps hc48 rfl (Lw.p hc48 (vB false) rfl (Lw.nil (⟨?_, ⟨false, W8, rfl, Le.refl _ _, rfl, hm⟩⟩))))))
   iterate 10 (refine .u ?_)
   exact Agree.refl _

theorem p93 {W : CW} {K : List Nat} {x0 : Str} {x1 : Byte} {x2 : Int} {k0 : Nat} {r : (List Str)}  (hm : Vm.spec_l1Cut x0 x1 x2 = some r) : CallR Tryd.prog 93 [vS x0, .int .u8 (UInt8.toNat x1 : Int), vI x2].toArray W.w (Res W [] fun W' v => ∃ (u0 : Value), v = u0 ∧ Ow W' k0 [] [u0] r) :=
 (c93 (V := W.view K [])  hm).ad (fk k0) fun _ _ ⟨u0, e, f0⟩ => ⟨u0, e, f0.back (fk_LL _)⟩

theorem c104 {V : CW} {x0 : Str} {r : Bool}  (hm : Vm.spec_l4Path x0 = some r) : CallR Tryd.prog 104 [vS x0].toArray V.w (Res V LL fun Wf v => v = vB r) := by
 unfold Vm.spec_l4Path at hm
 obtain ⟨W0, hW0⟩ : ∃ W, W = V := ⟨V, rfl⟩
 subst hW0
 refine CallR.of Tryd.func104 rfl rfl rfl rfl (Cw.seq (Cw.region (Lw.g (vB false) rfl (Lw.nil (Cw.seq (Cw.region (Lw.m (vS x0) rfl ?_)))))))
 obtain ⟨z1, e2, hm⟩ := ob hm
 refine Lw.t rfl (T.call rfl (p93 (K := [0]) (k0 := 2) (x1 := (UInt8.ofNatLT 47 (by decide) : Byte))  e2)) ?_
 rintro v0_3 _ ⟨W3, rfl, l3, ⟨_, rfl, f3_0⟩⟩
 have a4 := l3.o
 refine Lw.g v0_3 rfl (Lw.nil (Cw.seq (Cw.seq (Cw.region (Lw.g (vI 0) rfl (Lw.nil (Cw.block ?_)))))))
 obtain ⟨K8, hK8, hm⟩ := jn_e hm
 refine Cw.loop 7 18 [2, 4] (fun m l w => ∃ (y5 : Bool) (y6 : Int) (W7 : CW), W7.w = w ∧ Le [] W3 W7 ∧ l = [vB y5, vI y6] ∧ Vm.spec_l4Path_l1 z1 K8 m y5 y6 = some r) (((z1.length : Int) - 0).toNat + 1) ⟨false, 0, W3, rfl, Le.refl _ _, rfl, hm⟩ ?_
 rintro m9 _ _ σ ⟨y5, y6, W7, rfl, l7, rfl, hm⟩
 obtain _ | m9 := m9
 ·cases hm
 unfold Vm.spec_l4Path_l1 at hm
 have a10 := a4.n l7
 have o11 := f3_0.up l7 rfl
 refine Cw.seq (Cw.seq (Cw.region (Lw.m (vI y6) rfl (Lw.m v0_3 rfl (Lw.ln z1 o11.rd rfl (Lw.lt rfl (Lw.nil (Cw.cond (b := decide ((y6 : Int) < ((z1.length : Int) : Int))) rfl (fun hc12 => ?_) (fun hc12 => ?_)))))))))
 ·replace hm := bt hm hc12
  refine Cw.skip (Cw.seq (Cw.block (Cw.seq (Cw.region (Lw.m v0_3 rfl (Lw.m (vI y6) rfl ?_))))))
  obtain ⟨u13, e14, hm⟩ := ob hm
  refine Lw.r rfl (R.ix (α := Str) o11.rd e14 rfl rfl rfl) (Lw.r rfl (R.ld rfl rfl (o11.rd.at_ e14).str) ?_)
  obtain ⟨z15, e16, hm⟩ := ob hm
  refine Lw.t rfl (T.call rfl (p102 (K := [0])   e16)) ?_
  rintro _ _ ⟨W17, rfl, l17, rfl⟩
  have a18 := a10.n l17
  refine Lw.r rfl (R.not rfl) (Lw.nil (Cw.cond (b := (!z15)) rfl (fun hc20 => ?_) (fun hc20 => ?_)))
  ·replace hm := bt hm hc20
   refine Cw.seq (Cw.region (Lw.g (vB false) rfl (Lw.nil ?_)))
   cases hm
   exact Cw.ret (ret1 rfl (Res.mk a18 rfl))
  ·replace hm := bf hm hc20
   refine Cw.skip (Cw.region (Lw.m (vI y6) rfl (Lw.add rfl (Lw.g (vI (w64 (y6 + 1))) rfl (Lw.nil (⟨?_, m9, Nat.lt_succ_self m9, ⟨y5, w64 (y6 + 1), W17, rfl, (l7.trans l17), rfl, hm⟩⟩))))))
   iterate 15 (refine .u ?_)
   exact Agree.base
 ·replace hm := bf hm hc12
  refine Cw.exit ?_
  rw [hK8] at hm
  refine Cw.seq (Cw.region (Lw.m v0_3 rfl (Lw.ln z1 o11.rd rfl (Lw.le rfl (Lw.g (vB (decide (((z1.length : Int) : Int) ≤ (3 : Int)))) rfl (Lw.nil ?_))))))
  cases hm
  exact Cw.ret (ret1 rfl (Res.mk a10 rfl))

theorem p104 {W : CW} {K : List Nat} {x0 : Str} {r : Bool}  (hm : Vm.spec_l4Path x0 = some r) : CallR Tryd.prog 104 [vS x0].toArray W.w (Res W [] fun W' v => v = vB r) :=
 (c104 (V := W.view K [])  hm).ad (fk 0) fun _ _ e => e

theorem c150 {V : CW} {x0 : Str} {r : Bool}  (hm : Vm.spec_l1Line x0 = some r) : CallR Tryd.prog 150 [vS x0].toArray V.w (Res V LL fun Wf v => v = vB r) := by
 unfold Vm.spec_l1Line at hm
 obtain ⟨W0, hW0⟩ : ∃ W, W = V := ⟨V, rfl⟩
 subst hW0
 refine CallR.of Tryd.func150 rfl rfl rfl rfl (Cw.seq (Cw.region (Lw.g (vB false) rfl (Lw.nil (Cw.seq (Cw.seq (Cw.region (Lw.g (vI 0) rfl (Lw.nil (Cw.block ?_))))))))))
 obtain ⟨K4, hK4, hm⟩ := jn_e hm
 refine Cw.loop 4 19 [2, 3] (fun m l w => ∃ (y1 : Bool) (y2 : Int) (W3 : CW), W3.w = w ∧ Le [] W0 W3 ∧ l = [vB y1, vI y2] ∧ Vm.spec_l1Line_l1 x0 K4 m y1 y2 = some r) (((x0.length : Int) - 0).toNat + 1) ⟨false, 0, W0, rfl, Le.refl _ _, rfl, hm⟩ ?_
 rintro m5 _ _ σ ⟨y1, y2, W3, rfl, l3, rfl, hm⟩
 obtain _ | m5 := m5
 ·cases hm
 unfold Vm.spec_l1Line_l1 at hm
 have a6 := l3.o
 refine Cw.seq (Cw.seq (Cw.region (Lw.m (vI y2) rfl (Lw.m (vS x0) rfl (Lw.r rfl (R.lenS rfl) (Lw.lt rfl (Lw.nil (Cw.cond (b := decide ((y2 : Int) < ((x0.length : Int) : Int))) rfl (fun hc7 => ?_) (fun hc7 => ?_)))))))))
 ·replace hm := bt hm hc7
  refine Cw.skip (Cw.seq (Cw.block ?_))
  obtain ⟨K10, hK10, hm⟩ := jn_e hm
  refine Cw.join 10 19 [19] (fun l w => ∃ (y8 : Bool) (W9 : CW), W9.w = w ∧ Le [] W3 W9 ∧ l = [vB y8] ∧ K10 y8 = some r) ?_ ?_
  ·rintro _ _ σ ⟨y8, W9, rfl, l9, rfl, hm⟩
   rw [hK10] at hm
   have a11 := a6.n l9
   refine Cw.cond (b := y8) rfl (fun hc12 => ?_) (fun hc12 => ?_)
   ·replace hm := bt hm hc12
    refine Cw.seq (Cw.region (Lw.g (vB false) rfl (Lw.nil ?_)))
    cases hm
    exact Cw.ret (ret1 rfl (Res.mk a11 rfl))
   ·replace hm := bf hm hc12
    refine Cw.skip (Cw.region (Lw.m (vI y2) rfl (Lw.add rfl (Lw.g (vI (w64 (y2 + 1))) rfl (Lw.nil (⟨?_, m5, Nat.lt_succ_self m5, ⟨y1, w64 (y2 + 1), W9, rfl, (l3.trans l9), rfl, hm⟩⟩))))))
    iterate 4 (refine .u ?_)
    refine Agree.ov0 rfl ?_
    iterate 6 (refine .u ?_)
    exact Agree.base
  ·refine Cw.region (Lw.m (vS x0) rfl (Lw.m (vI y2) rfl ?_))
   obtain ⟨u13, e14, hm⟩ := ob hm
   refine Lw.r rfl (R.chm e14 rfl rfl) (Lw.lt rfl (Lw.m (vB (decide (((UInt8.toNat u13 : Int) : Int) < (32 : Int)))) rfl (bsplit (decide (((UInt8.toNat u13 : Int) : Int) < (32 : Int))) (fun hc15 => ?_) (fun hc15 => ?_))))
   ·replace hm := bt hm hc15
    refine Lw.ps hc15 rfl (Lw.ps hc15 rfl (Lw.ps hc15 rfl (Lw.ps hc15 rfl (Lw.p hc15 (vB true) rfl (Lw.nil (⟨?_, ⟨true, W3, rfl, Le.refl _ _, rfl, hm⟩⟩))))))
    iterate 10 (refine .u ?_)
    exact Agree.refl _
   ·replace hm := bf hm hc15
    refine Lw.wa hc15 rfl (Lw.m (vS x0) rfl (Lw.wa hc15 rfl (Lw.m (vI y2) rfl (Lw.wa hc15 rfl ?_))))
    obtain ⟨u16, e17, hm⟩ := ob hm
    refine Lw.r rfl (R.chm e17 rfl rfl) (Lw.wa hc15 rfl (Lw.gt rfl (Lw.p hc15 (vB (decide ((126 : Int) < ((UInt8.toNat u16 : Int) : Int)))) rfl (Lw.nil (⟨?_, ⟨decide ((126 : Int) < ((UInt8.toNat u16 : Int) : Int)), W3, rfl, Le.refl _ _, rfl, hm⟩⟩)))))
    iterate 10 (refine .u ?_)
    exact Agree.refl _
 ·replace hm := bf hm hc7
  refine Cw.exit ?_
  rw [hK4] at hm
  refine Cw.seq (Cw.region (Lw.m (vS x0) rfl (Lw.r rfl (R.lenS rfl) (Lw.le rfl (Lw.g (vB (decide (((x0.length : Int) : Int) ≤ (12 : Int)))) rfl (Lw.nil ?_))))))
  cases hm
  exact Cw.ret (ret1 rfl (Res.mk a6 rfl))

theorem p150 {W : CW} {K : List Nat} {x0 : Str} {r : Bool}  (hm : Vm.spec_l1Line x0 = some r) : CallR Tryd.prog 150 [vS x0].toArray W.w (Res W [] fun W' v => v = vB r) :=
 (c150 (V := W.view K [])  hm).ad (fk 0) fun _ _ e => e

theorem c131 {V : CW} {x0 : List Str} {v0_ : Value} {r : Bool} (h0 : Rd V [0] [v0_] x0) (hm : Vm.spec_l1Ok x0 = some r) : CallR Tryd.prog 131 [v0_].toArray V.w (Res V LL fun Wf v => v = vB r) := by
 unfold Vm.spec_l1Ok at hm
 obtain ⟨W0, hW0⟩ : ∃ W, W = V := ⟨V, rfl⟩
 subst hW0
 refine CallR.of Tryd.func131 rfl rfl rfl rfl (Cw.seq (Cw.region (Lw.g (vB false) rfl (Lw.nil (Cw.seq (Cw.seq (Cw.region (Lw.g (vI 0) rfl (Lw.nil (Cw.block ?_))))))))))
 obtain ⟨K4, hK4, hm⟩ := jn_e hm
 refine Cw.loop 4 15 [2, 3] (fun m l w => ∃ (y1 : Bool) (y2 : Int) (W3 : CW), W3.w = w ∧ Le [] W0 W3 ∧ l = [vB y1, vI y2] ∧ Vm.spec_l1Ok_l1 x0 K4 m y1 y2 = some r) (((x0.length : Int) - 0).toNat + 1) ⟨false, 0, W0, rfl, Le.refl _ _, rfl, hm⟩ ?_
 rintro m5 _ _ σ ⟨y1, y2, W3, rfl, l3, rfl, hm⟩
 obtain _ | m5 := m5
 ·cases hm
 unfold Vm.spec_l1Ok_l1 at hm
 have a6 := l3.o
 refine Cw.seq (Cw.seq (Cw.region ?_))
 have s7 := h0.ul a6
 refine Lw.m (vI y2) rfl (Lw.m v0_ rfl (Lw.ln x0 s7 rfl (Lw.lt rfl (Lw.nil (Cw.cond (b := decide ((y2 : Int) < ((x0.length : Int) : Int))) rfl (fun hc8 => ?_) (fun hc8 => ?_))))))
 ·replace hm := bt hm hc8
  refine Cw.skip (Cw.seq (Cw.block (Cw.seq (Cw.region (Lw.m v0_ rfl (Lw.m (vI y2) rfl ?_))))))
  obtain ⟨u9, e10, hm⟩ := ob hm
  refine Lw.r rfl (R.ix (α := Str) s7 e10 rfl rfl rfl) (Lw.r rfl (R.ld rfl rfl (s7.at_ e10).str) ?_)
  obtain ⟨z11, e12, hm⟩ := ob hm
  refine Lw.t rfl (T.call rfl (p150 (K := [0])   e12)) ?_
  rintro _ _ ⟨W13, rfl, l13, rfl⟩
  have a14 := a6.n l13
  refine Lw.r rfl (R.not rfl) (Lw.nil (Cw.cond (b := (!z11)) rfl (fun hc15 => ?_) (fun hc15 => ?_)))
  ·replace hm := bt hm hc15
   refine Cw.seq (Cw.region (Lw.g (vB false) rfl (Lw.nil ?_)))
   cases hm
   exact Cw.ret (ret1 rfl (Res.mk a14 rfl))
  ·replace hm := bf hm hc15
   refine Cw.skip (Cw.region (Lw.m (vI y2) rfl (Lw.add rfl (Lw.g (vI (w64 (y2 + 1))) rfl (Lw.nil (⟨?_, m5, Nat.lt_succ_self m5, ⟨y1, w64 (y2 + 1), W13, rfl, (l3.trans l13), rfl, hm⟩⟩))))))
   iterate 15 (refine .u ?_)
   exact Agree.base
 ·replace hm := bf hm hc8
  refine Cw.exit ?_
  rw [hK4] at hm
  refine Cw.seq (Cw.region (Lw.m v0_ rfl (Lw.ln x0 s7 rfl (Lw.le rfl (Lw.g (vB (decide (((x0.length : Int) : Int) ≤ (10 : Int)))) rfl (Lw.nil ?_))))))
  cases hm
  exact Cw.ret (ret1 rfl (Res.mk a6 rfl))

theorem p131 {W : CW} {K : List Nat} {x0 : List Str} {v0_ : Value} {r : Bool} (h0 : Rd W K [v0_] x0) (hm : Vm.spec_l1Ok x0 = some r) : CallR Tryd.prog 131 [v0_].toArray W.w (Res W [] fun W' v => v = vB r) :=
 (c131 (V := W.view K []) (h0.view _) hm).ad (fk 0) fun _ _ e => e

theorem c138 {V : CW} {x0 : Str} {x1 : Str} {r : Bool}  (hm : Vm.spec_l4In x0 x1 = some r) : CallR Tryd.prog 138 [vS x0, vS x1].toArray V.w (Res V LL fun Wf v => v = vB r) := by
 unfold Vm.spec_l4In at hm
 obtain ⟨W0, hW0⟩ : ∃ W, W = V := ⟨V, rfl⟩
 subst hW0
 refine CallR.of Tryd.func138 rfl rfl rfl rfl (Cw.seq (Cw.region (Lw.g (vB false) rfl (Lw.nil ?_))))
 obtain ⟨K3, hK3, hm⟩ := jn_e hm
 refine Cw.join 5 24 [4] (fun l w => ∃ (y1 : Bool) (W2 : CW), W2.w = w ∧ Le [] W0 W2 ∧ l = [vB y1] ∧ K3 y1 = some r) ?_ ?_
 ·rintro _ _ σ ⟨y1, W2, rfl, l2, rfl, hm⟩
  rw [hK3] at hm
  have a4 := l2.o
  cases hm
  exact Cw.ret (ret1 rfl (Res.mk a4 rfl))
 ·refine Cw.region (Lw.m (vS x1) rfl (Lw.r rfl (R.lenS rfl) (Lw.m (vS x0) rfl (Lw.r rfl (R.lenS rfl) (Lw.gt rfl (Lw.m (vB (decide (((x0.length : Int) : Int) < ((x1.length : Int) : Int)))) rfl (bsplit (decide (((x0.length : Int) : Int) < ((x1.length : Int) : Int))) (fun hc5 => ?_) (fun hc5 => ?_))))))))
  ·replace hm := bt hm hc5
   refine Lw.wa hc5 rfl (Lw.m (vS x1) rfl (Lw.wa hc5 rfl (Lw.m (vS x0) rfl (Lw.wa hc5 rfl (Lw.r rfl (R.lenS rfl) (Lw.wa hc5 rfl ?_))))))
   obtain ⟨q6, e7, hm⟩ := ob hm
   refine Lw.r rfl (R.ss e7 rfl (.inl ⟨rfl, rfl⟩) (.inr rfl)) (Lw.wa hc5 rfl (Lw.m (vS x0) rfl (Lw.wa hc5 rfl (Lw.seq rfl (Lw.p hc5 (vB (q6 == x0)) rfl (Lw.m (vB (q6 == x0)) rfl (bsplit (q6 == x0) (fun hc8 => ?_) (fun hc8 => ?_))))))))
   ·replace hm := bt hm hc8
    refine Lw.wa hc8 rfl (Lw.m (vS x1) rfl (Lw.wa hc8 rfl (Lw.m (vS x0) rfl (Lw.wa hc8 rfl (Lw.r rfl (R.lenS rfl) (Lw.wa hc8 rfl ?_))))))
    obtain ⟨u9, e10, hm⟩ := ob hm
    refine Lw.r rfl (R.chm e10 rfl rfl) (Lw.wa hc8 rfl (Lw.eq rfl (Lw.p hc8 (vB (((UInt8.toNat u9 : Int) : Int) == (47 : Int))) rfl (Lw.g (vB (((UInt8.toNat u9 : Int) : Int) == (47 : Int))) rfl (Lw.nil (⟨?_, ⟨(((UInt8.toNat u9 : Int) : Int) == (47 : Int)), W0, rfl, Le.refl _ _, rfl, hm⟩⟩))))))
    iterate 21 (refine .u ?_)
    exact Agree.refl _
   ·replace hm := bf hm hc8
    refine Lw.ps hc8 rfl (Lw.ps hc8 rfl (Lw.ps hc8 rfl (Lw.ps hc8 rfl (Lw.ps hc8 rfl (Lw.p hc8 (vB false) rfl (Lw.g (vB false) rfl (Lw.nil (⟨?_, ⟨false, W0, rfl, Le.refl _ _, rfl, hm⟩⟩))))))))
    iterate 21 (refine .u ?_)
    exact Agree.refl _
  ·replace hm := bf hm hc5
   refine Lw.ps hc5 rfl (Lw.ps hc5 rfl (Lw.ps hc5 rfl (Lw.ps hc5 rfl (Lw.ps hc5 rfl (Lw.ps hc5 rfl (Lw.p hc5 (vB false) rfl (Lw.m (vB false) rfl (Lw.ps rfl rfl (Lw.ps rfl rfl (Lw.ps rfl rfl (Lw.ps rfl rfl (Lw.ps rfl rfl (Lw.p rfl (vB false) rfl (Lw.g (vB false) rfl (Lw.nil (⟨?_, ⟨false, W0, rfl, Le.refl _ _, rfl, hm⟩⟩))))))))))))))))
   iterate 21 (refine .u ?_)
   exact Agree.refl _

theorem p138 {W : CW} {K : List Nat} {x0 : Str} {x1 : Str} {r : Bool}  (hm : Vm.spec_l4In x0 x1 = some r) : CallR Tryd.prog 138 [vS x0, vS x1].toArray W.w (Res W [] fun W' v => v = vB r) :=
 (c138 (V := W.view K [])  hm).ad (fk 0) fun _ _ e => e

theorem c114 {V : CW} {x0 : List Vm.File} {v0_ : Value} {r : Bool} (h0 : Rd V [0] [v0_] x0) (hm : Vm.spec_l4Ok x0 = some r) : CallR Tryd.prog 114 [v0_].toArray V.w (Res V LL fun Wf v => v = vB r) := by
 unfold Vm.spec_l4Ok at hm
 obtain ⟨W0, hW0⟩ : ∃ W, W = V := ⟨V, rfl⟩
 subst hW0
 refine CallR.of Tryd.func114 rfl rfl rfl rfl (Cw.seq (Cw.region (Lw.g (vB false) rfl (Lw.nil (Cw.seq (Cw.seq (Cw.region (Lw.g (vI 0) rfl (Lw.nil (Cw.block ?_))))))))))
 obtain ⟨K5, hK5, hm⟩ := jn_e hm
 refine Cw.loop 5 61 [2, 3, 4] (fun m l w => ∃ (y1 : Bool) (y2 : Int) (j3 : Value) (W4 : CW), W4.w = w ∧ Le [] W0 W4 ∧ l = [vB y1, vI y2, j3] ∧ Vm.spec_l4Ok_l1 x0 K5 m y1 y2 = some r) (((x0.length : Int) - 0).toNat + 1) ⟨false, 0, undef, W0, rfl, Le.refl _ _, rfl, hm⟩ ?_
 rintro m6 _ _ σ ⟨y1, y2, j3, W4, rfl, l4, rfl, hm⟩
 obtain _ | m6 := m6
 ·cases hm
 unfold Vm.spec_l4Ok_l1 at hm
 have a7 := l4.o
 refine Cw.seq (Cw.seq (Cw.region (Lw.m (vI y2) rfl (Lw.m v0_ rfl (Lw.ln x0 (h0.ul a7) rfl (Lw.lt rfl (Lw.nil (Cw.cond (b := decide ((y2 : Int) < ((x0.length : Int) : Int))) rfl (fun hc9 => ?_) (fun hc9 => ?_)))))))))
 ·replace hm := bt hm hc9
  refine Cw.skip (Cw.seq (Cw.block (Cw.seq ?_)))
  obtain ⟨K12, hK12, hm⟩ := jn_e hm
  refine Cw.join 11 44 [44] (fun l w => ∃ (y10 : Bool) (W11 : CW), W11.w = w ∧ Le [] W4 W11 ∧ l = [vB y10] ∧ K12 y10 = some r) ?_ ?_
  ·rintro _ _ σ ⟨y10, W11, rfl, l11, rfl, hm⟩
   rw [hK12] at hm
   have a13 := a7.n l11
   refine Cw.cond (b := y10) rfl (fun hc14 => ?_) (fun hc14 => ?_)
   ·replace hm := bt hm hc14
    refine Cw.seq (Cw.region (Lw.g (vB false) rfl (Lw.nil ?_)))
    cases hm
    exact Cw.ret (ret1 rfl (Res.mk a13 rfl))
   ·replace hm := bf hm hc14
    refine Cw.skip (Cw.seq (Cw.region (Lw.g (vI 0) rfl (Lw.nil (Cw.block ?_)))))
    obtain ⟨K18, hK18, hm⟩ := jn_e hm
    refine Cw.loop 45 61 [2, 4] (fun m l w => ∃ (y15 : Bool) (y16 : Int) (W17 : CW), W17.w = w ∧ Le [] W11 W17 ∧ l = [vB y15, vI y16] ∧ Vm.spec_l4Ok_l2 x0 y2 K18 m y15 y16 = some r) (((x0.length : Int) - 0).toNat + 1) ⟨y1, 0, W11, rfl, Le.refl _ _, rfl, hm⟩ ?_
    rintro m19 _ _ σ ⟨y15, y16, W17, rfl, l17, rfl, hm⟩
    obtain _ | m19 := m19
    ·cases hm
    unfold Vm.spec_l4Ok_l2 at hm
    have a20 := a13.n l17
    refine Cw.seq (Cw.seq (Cw.region (Lw.m (vI y16) rfl (Lw.m v0_ rfl (Lw.ln x0 (h0.ul a20) rfl (Lw.lt rfl (Lw.nil (Cw.cond (b := decide ((y16 : Int) < ((x0.length : Int) : Int))) rfl (fun hc22 => ?_) (fun hc22 => ?_)))))))))
    ·replace hm := bt hm hc22
     refine Cw.skip (Cw.seq (Cw.block (Cw.seq (Cw.draw [] [(0, 0), (1, 0), (2, 0), (3, 0), (4, 1), (5, 0), (6, 0), (7, 0), (8, 0), (9, 1), (10, 3)] mixed (by kernel_rfl) fun W23 l23 => ?_))))
     have a24 := a20.n l23
     refine Mw.p rfl rfl (fun _ => R.mv (v := v0_) rfl) (Mw.p rfl rfl (fun _ => R.mv (v := vI y2) rfl) ?_)
     obtain ⟨u25, e26, hm⟩ := ob hm
     have s27 := h0.ul a24
     refine Mw.p rfl rfl (fun _ => R.ix (α := File) s27 e26 rfl rfl rfl) (Mw.p rfl rfl (fun _ => R.fa rfl) (Mw.q rfl rfl (fun _ c => R.ld rfl rfl (cl_cell (File.at0 (s27.at_ e26)).1 rfl (File.at0 (s27.at_ e26)).str c)) (Mw.p rfl rfl (fun _ => R.mv (v := v0_) rfl) (Mw.p rfl rfl (fun _ => R.mv (v := vI y16) rfl) ?_))))
     obtain ⟨u28, e29, hm⟩ := ob hm
     refine Mw.p rfl rfl (fun _ => R.ix (α := File) s27 e29 rfl rfl rfl) (Mw.p rfl rfl (fun _ => R.fa rfl) (Mw.q rfl rfl (fun _ c => R.ld rfl rfl (cl_cell (File.at0 (s27.at_ e29)).1 rfl (File.at0 (s27.at_ e29)).str c)) ?_))
     obtain ⟨z30, e31, hm⟩ := ob hm
     refine Mw.l rfl rfl (T.call rfl (p138 (K := [0])   e31)) ?_
     rintro _ _ ⟨W32, rfl, l32, rfl⟩
     have a33 := a24.n l32
     refine Mw.nil (Cw.cond (b := z30) rfl (fun hc34 => ?_) (fun hc34 => ?_))
     ·replace hm := bt hm hc34
      refine Cw.seq (Cw.region (Lw.g (vB false) rfl (Lw.nil ?_)))
      cases hm
      exact Cw.ret (ret1 rfl (Res.mk a33 rfl))
     ·replace hm := bf hm hc34
      refine Cw.skip (Cw.region (Lw.m (vI y16) rfl (Lw.add rfl (Lw.g (vI (w64 (y16 + 1))) rfl (Lw.nil (⟨?_, m19, Nat.lt_succ_self m19, ⟨y15, w64 (y16 + 1), W32, rfl, (l17.trans (l23.trans l32)), rfl, hm⟩⟩))))))
      iterate 20 (refine .u ?_)
      exact Agree.base
    ·replace hm := bf hm hc22
     refine Cw.exit ?_
     rw [hK18] at hm
     refine Cw.region (Lw.m (vI y2) rfl (Lw.add rfl (Lw.g (vI (w64 (y2 + 1))) rfl (Lw.nil (⟨?_, m6, Nat.lt_succ_self m6, ⟨y15, w64 (y2 + 1), vI y16, W17, rfl, (l4.trans (l11.trans l17)), rfl, hm⟩⟩)))))
     iterate 9 (refine .u ?_)
     refine Agree.ov0 rfl ?_
     iterate 2 (refine .u ?_)
     refine Agree.ov0 rfl ?_
     iterate 7 (refine .u ?_)
     exact Agree.base
  ·refine Cw.draw [] [(0, 0), (1, 0), (2, 0), (3, 0), (4, 1), (5, 2), (6, 0), (7, 0), (8, 0), (9, 0), (10, 0), (11, 0), (12, 1), (13, 2), (14, 0), (15, 0), (16, 0), (17, 0), (18, 0), (19, 0), (20, 0), (21, 0), (22, 0), (23, 0), (24, 1), (25, 0), (26, 0), (27, 0), (28, 0), (29, 0), (30, 1), (31, 0), (32, 0), (33, 0)] mixed (by kernel_rfl) fun W35 l35 => ?_
   have a36 := a7.n l35
   refine Mw.p rfl rfl (fun _ => R.mv (v := v0_) rfl) (Mw.p rfl rfl (fun _ => R.mv (v := vI y2) rfl) ?_)
   obtain ⟨u37, e38, hm⟩ := ob hm
   have s39 := h0.ul a36
   refine Mw.p rfl rfl (fun _ => R.ix (α := File) s39 e38 rfl rfl rfl) (Mw.p rfl rfl (fun _ => R.fa rfl) (Mw.q rfl rfl (fun _ c => R.ld rfl rfl (cl_cell (File.at0 (s39.at_ e38)).1 rfl (File.at0 (s39.at_ e38)).str c)) ?_))
   obtain ⟨z40, e41, hm⟩ := ob hm
   refine Mw.t rfl rfl (T.call rfl (p104 (K := [0])   e41)) ?_
   rintro _ _ ⟨W42, rfl, l42, rfl⟩
   have a43 := l42.o
   refine ⟨⟨_, rfl, (l42.sub (M := []) rfl)⟩, ?_⟩
   refine Mw.p rfl rfl (fun _ => R.not rfl) (Mw.p rfl rfl (fun _ => R.mv (v := vB (!z40)) rfl) (bsplit (!z40) (fun hc44 => ?_) (fun hc44 => ?_)))
   ·replace hm := bt hm hc44
    refine Mw.ps hc44 rfl rfl (Mw.ps hc44 rfl rfl (Mw.ps hc44 rfl rfl (Mw.ps hc44 rfl rfl (Mw.ps hc44 rfl rfl (Mw.ps hc44 rfl rfl (Mw.ps hc44 rfl rfl (Mw.p rfl rfl (fun _ => R.pk hc44 rfl (v := vB true) rfl) (Mw.p rfl rfl (fun _ => R.mv (v := vB true) rfl) (Mw.ps rfl rfl rfl (Mw.ps rfl rfl rfl (Mw.ps rfl rfl rfl (Mw.pu rfl rfl (Mw.pu rfl rfl (Mw.pu rfl rfl (Mw.pu rfl rfl (Mw.pu rfl rfl (Mw.pu rfl rfl (Mw.pu rfl rfl (Mw.pu rfl rfl (Mw.pu rfl rfl (Mw.pu rfl rfl (Mw.pu rfl rfl (Mw.pu rfl rfl (Mw.ps rfl rfl rfl (Mw.p rfl rfl (fun _ => R.pk rfl rfl (v := vB true) rfl) (Mw.nil (⟨?_, ⟨true, W42, rfl, (l35.trans l42), rfl, hm⟩⟩)))))))))))))))))))))))))))
    iterate 34 (refine .u ?_)
    exact Agree.refl _
   ·replace hm := bf hm hc44
    refine Mw.gp hc44 rfl rfl rfl rfl rfl (fun _ => R.mv (v := v0_) rfl) (Mw.gp hc44 rfl rfl rfl rfl rfl (fun _ => R.mv (v := vI y2) rfl) ?_)
    obtain ⟨u45, e46, hm⟩ := ob hm
    refine Mw.gp hc44 rfl rfl rfl rfl rfl (fun _ => R.ix (α := File) s39 e46 rfl rfl rfl) (Mw.gp hc44 rfl rfl rfl rfl rfl (fun _ => R.fa rfl) ?_)
    obtain ⟨v47, c48, r49⟩ := (File.at1 (s39.at_ e46)).cell rfl
    refine Mw.gq hc44 rfl rfl rfl rfl rfl (fun _ c => R.ld rfl rfl (cl_cell (File.at1 (s39.at_ e46)).1 rfl c48 c)) ?_
    obtain ⟨z51, e52, hm⟩ := ob hm
    refine Mw.gt hc44 rfl rfl rfl rfl rfl (T.call rfl (p131 (K := [0])  (r49.ul a43) e52)) ?_
    rintro _ _ ⟨W53, rfl, l53, rfl⟩
    refine ⟨⟨_, rfl, ((l42.sub (M := []) rfl).trans (l53.sub (M := []) rfl))⟩, ?_⟩
    refine Mw.gp hc44 rfl rfl rfl rfl rfl (fun _ => R.not rfl) (Mw.p rfl rfl (fun _ => R.pk hc44 rfl (v := vB (!z51)) rfl) (Mw.p rfl rfl (fun _ => R.mv (v := vB (!z51)) rfl) (bsplit (!z51) (fun hc55 => ?_) (fun hc55 => ?_))))
    ·replace hm := bt hm hc55
     refine Mw.ps hc55 rfl rfl (Mw.ps hc55 rfl rfl (Mw.ps hc55 rfl rfl (Mw.pu rfl rfl (Mw.pu rfl rfl (Mw.pu rfl rfl (Mw.pu rfl rfl (Mw.pu rfl rfl (Mw.pu rfl rfl (Mw.pu rfl rfl (Mw.pu rfl rfl (Mw.pu rfl rfl (Mw.pu rfl rfl (Mw.pu rfl rfl (Mw.pu rfl rfl (Mw.ps hc55 rfl rfl (Mw.p rfl rfl (fun _ => R.pk hc55 rfl (v := vB true) rfl) (Mw.nil (⟨?_, ⟨true, W53, rfl, (l35.trans (l42.trans l53)), rfl, hm⟩⟩))))))))))))))))))
     iterate 34 (refine .u ?_)
     exact Agree.refl _
    ·replace hm := bf hm hc55
     refine Mw.gp hc55 rfl rfl rfl rfl rfl (fun _ => R.mv (v := vI y2) rfl) (Mw.gp hc55 rfl rfl rfl rfl rfl (fun _ => R.gt rfl rfl) (Mw.gp hc55 rfl rfl rfl rfl rfl (fun _ => R.mv (v := vB (decide ((0 : Int) < (y2 : Int)))) rfl) (bsplit (decide ((0 : Int) < (y2 : Int))) (fun hc56 => ?_) (fun hc56 => ?_))))
     ·replace hm := bt hm hc56
      refine Mw.gp hc56 rfl rfl rfl rfl rfl (fun _ => R.mv (v := v0_) rfl) (Mw.gp hc56 rfl rfl rfl rfl rfl (fun _ => R.mv (v := vI y2) rfl) ?_)
      obtain ⟨u57, e58, hm⟩ := ob hm
      refine Mw.gp hc56 rfl rfl rfl rfl rfl (fun _ => R.ix (α := File) s39 e58 rfl rfl rfl) (Mw.gp hc56 rfl rfl rfl rfl rfl (fun _ => R.fa rfl) (Mw.gq hc56 rfl rfl rfl rfl rfl (fun _ c => R.ld rfl rfl (cl_cell (File.at0 (s39.at_ e58)).1 rfl (File.at0 (s39.at_ e58)).str c)) (Mw.gp hc56 rfl rfl rfl rfl rfl (fun _ => R.mv (v := v0_) rfl) (Mw.gp hc56 rfl rfl rfl rfl rfl (fun _ => R.mv (v := vI y2) rfl) (Mw.gp hc56 rfl rfl rfl rfl rfl (fun _ => R.sub rfl rfl) ?_)))))
      obtain ⟨u59, e60, hm⟩ := ob hm
      refine Mw.gp hc56 rfl rfl rfl rfl rfl (fun _ => R.ix (α := File) s39 e60 rfl rfl rfl) (Mw.gp hc56 rfl rfl rfl rfl rfl (fun _ => R.fa rfl) (Mw.gq hc56 rfl rfl rfl rfl rfl (fun _ c => R.ld rfl rfl (cl_cell (File.at0 (s39.at_ e60)).1 rfl (File.at0 (s39.at_ e60)).str c)) (Mw.gp hc56 rfl rfl rfl rfl rfl (fun _ => R.sle rfl rfl) (Mw.gp hc55 rfl rfl rfl rfl rfl (fun _ => R.pk hc56 rfl (v := vB (Op.bytesLess u57.Path u59.Path || u57.Path == u59.Path)) rfl) (Mw.p rfl rfl (fun _ => R.pk hc55 rfl (v := vB (Op.bytesLess u57.Path u59.Path || u57.Path == u59.Path)) rfl) (Mw.nil (⟨?_, ⟨(Op.bytesLess u57.Path u59.Path || u57.Path == u59.Path), W53, rfl, (l35.trans (l42.trans l53)), rfl, hm⟩⟩)))))))
      iterate 34 (refine .u ?_)
      exact Agree.refl _
     ·replace hm := bf hm hc56
      refine Mw.ps hc56 rfl rfl (Mw.ps hc56 rfl rfl (Mw.ps hc56 rfl rfl (Mw.ps hc56 rfl rfl (Mw.ps hc56 rfl rfl (Mw.ps hc56 rfl rfl (Mw.ps hc56 rfl rfl (Mw.ps hc56 rfl rfl (Mw.ps hc56 rfl rfl (Mw.ps hc56 rfl rfl (Mw.ps hc56 rfl rfl (Mw.ps hc56 rfl rfl (Mw.gp hc55 rfl rfl rfl rfl rfl (fun _ => R.pk hc56 rfl (v := vB false) rfl) (Mw.p rfl rfl (fun _ => R.pk hc55 rfl (v := vB false) rfl) (Mw.nil (⟨?_, ⟨false, W53, rfl, (l35.trans (l42.trans l53)), rfl, hm⟩⟩)))))))))))))))
      iterate 34 (refine .u ?_)
      exact Agree.refl _
 ·replace hm := bf hm hc9
  refine Cw.exit ?_
  rw [hK5] at hm
  refine Cw.seq (Cw.region (Lw.m v0_ rfl (Lw.ln x0 (h0.ul a7) rfl (Lw.le rfl (Lw.g (vB (decide (((x0.length : Int) : Int) ≤ (8 : Int)))) rfl (Lw.nil ?_))))))
  cases hm
  exact Cw.ret (ret1 rfl (Res.mk a7 rfl))

theorem p114 {W : CW} {K : List Nat} {x0 : List Vm.File} {v0_ : Value} {r : Bool} (h0 : Rd W K [v0_] x0) (hm : Vm.spec_l4Ok x0 = some r) : CallR Tryd.prog 114 [v0_].toArray W.w (Res W [] fun W' v => v = vB r) :=
 (c114 (V := W.view K []) (h0.view _) hm).ad (fk 0) fun _ _ e => e

theorem c55 {V : CW} {x0 : Vm.Repo} {v0_0_ : Value} {v0_1_ : Value} {r : Bool} (h0 : Rd V [0] [v0_0_, v0_1_] x0) (hm : Vm.spec_l7Ok x0 = some r) : CallR Tryd.prog 55 [.agg [v0_0_, v0_1_].toArray].toArray V.w (Res V LL fun Wf v => v = vB r) := by
 unfold Vm.spec_l7Ok at hm
 obtain ⟨w0_0, w0_1, he0, h0_0, h0_1⟩ := Repo.split h0
 simp only [List.cons.injEq, and_true, true_and] at he0
 obtain ⟨rfl, rfl⟩ := he0
 obtain ⟨W0, hW0⟩ : ∃ W, W = V := ⟨V, rfl⟩
 subst hW0
 refine CallR.of Tryd.func55 rfl rfl rfl rfl (Cw.seq (Cw.region (Lw.t rfl (T.box 2 (v := .agg [v0_0_, v0_1_].toArray) (cs := [v0_0_, v0_1_]) rfl rfl) ?_)))
 rintro _ _ ⟨g1, W1, rfl, rfl, l1, b1⟩
 have a2 := l1.o
 refine Lw.g (vB false) rfl (Lw.nil (Cw.seq (Cw.seq (Cw.region (Lw.g (vI 0) rfl (Lw.nil (Cw.block ?_)))))))
 obtain ⟨K8, hK8, hm⟩ := jn_e hm
 refine Cw.loop 7 66 [2, 3, 4, 5] (fun m l w => ∃ (y3 : Bool) (y4 : Int) (j5 j6 : Value) (W7 : CW), W7.w = w ∧ Le [3] W1 W7 ∧ l = [vB y3, vI y4, j5, j6] ∧ Vm.spec_l7Ok_l1 x0 K8 m y3 y4 = some r) (((x0.Commits.length : Int) - 0).toNat + 1) ⟨false, 0, undef, undef, W1, rfl, Le.refl _ _, rfl, hm⟩ ?_
 rintro m9 _ _ σ ⟨y3, y4, j5, j6, W7, rfl, l7, rfl, hm⟩
 obtain _ | m9 := m9
 ·cases hm
 unfold Vm.spec_l7Ok_l1 at hm
 have a10 := a2.t l7 rfl
 have b11 := b1.up l7 rfl
 refine Cw.seq (Cw.seq (Cw.region ?_))
 have s12 := h0_0.ul a10
 refine Lw.m (vI y4) rfl (Lw.fa rfl (Lw.r rfl (R.ld (v := v0_0_) rfl rfl (b11.cell rfl)) (Lw.ln x0.Commits s12 rfl (Lw.lt rfl (Lw.nil (Cw.cond (b := decide ((y4 : Int) < ((x0.Commits.length : Int) : Int))) rfl (fun hc13 => ?_) (fun hc13 => ?_)))))))
 ·replace hm := bt hm hc13
  refine Cw.skip (Cw.seq (Cw.block (Cw.seq (Cw.region (Lw.fa rfl (Lw.r rfl (R.ld (v := v0_0_) rfl rfl (b11.cell rfl)) (Lw.m (vI y4) rfl ?_)))))))
  obtain ⟨u14, e15, hm⟩ := ob hm
  refine Lw.r rfl (R.ix (α := Commit) s12 e15 rfl rfl rfl) ?_
  obtain ⟨x16, c17, _, r18⟩ := (s12.at_ e15).cells
  obtain ⟨v19, v21, rfl, r20, r22⟩ := Commit.split r18
  refine Lw.r rfl (R.lda c17 rfl rfl) (Lw.t rfl (T.alloc 3 (cs := [.slice none 0 0, vS ([] : Str), .slice none 0 0]) rfl) ?_)
  rintro _ _ ⟨g23, W23, rfl, rfl, l23, b23⟩
  have a24 := l23.o
  refine Lw.u (T.sta (vs := [v19, vS u14.Who, v21]) b23 rfl rfl (oc_cons r20.oc (oc_cons rfl (oc_cons r22.oc oc_nil))) rfl rfl) ?_
  rintro _ _ ⟨W26, rfl, l26, b26⟩
  have a27 := l26.s rfl
  refine Lw.nil (Cw.seq (Cw.seq (Cw.region (Lw.g (vI 0) rfl (Lw.nil (Cw.block ?_))))))
  obtain ⟨K32, hK32, hm⟩ := jn_e hm
  refine Cw.loop 19 50 [2, 5] (fun m l w => ∃ (y29 : Bool) (y30 : Int) (W31 : CW), W31.w = w ∧ Le [] W26 W31 ∧ l = [vB y29, vI y30] ∧ Vm.spec_l7Ok_l2 y4 u14 K32 m y29 y30 = some r) (((u14.Parents.length : Int) - 0).toNat + 1) ⟨y3, 0, W26, rfl, Le.refl _ _, rfl, hm⟩ ?_
  rintro m33 _ _ σ ⟨y29, y30, W31, rfl, l31, rfl, hm⟩
  obtain _ | m33 := m33
  ·cases hm
  unfold Vm.spec_l7Ok_l2 at hm
  have a34 := l31.o
  have b36 := b26.up l31 rfl
  refine Cw.seq (Cw.seq (Cw.region ?_))
  have s37 := r20.ul ((a24.trans a27).trans a34)
  refine Lw.m (vI y30) rfl (Lw.fa rfl (Lw.r rfl (R.ld (v := v19) rfl rfl (b36.cell rfl)) (Lw.ln u14.Parents s37 rfl (Lw.lt rfl (Lw.nil (Cw.cond (b := decide ((y30 : Int) < ((u14.Parents.length : Int) : Int))) rfl (fun hc38 => ?_) (fun hc38 => ?_)))))))
  ·replace hm := bt hm hc38
   refine Cw.skip (Cw.seq (Cw.block ?_))
   obtain ⟨K41, hK41, hm⟩ := jn_e hm
   refine Cw.join 26 50 [50] (fun l w => ∃ (y39 : Bool) (W40 : CW), W40.w = w ∧ Le [] W31 W40 ∧ l = [vB y39] ∧ K41 y39 = some r) ?_ ?_
   ·rintro _ _ σ ⟨y39, W40, rfl, l40, rfl, hm⟩
    rw [hK41] at hm
    have a42 := (((a10.trans a24).trans a27).trans a34).n l40
    refine Cw.cond (b := y39) rfl (fun hc45 => ?_) (fun hc45 => ?_)
    ·replace hm := bt hm hc45
     refine Cw.seq (Cw.region (Lw.g (vB false) rfl (Lw.nil ?_)))
     cases hm
     exact Cw.ret (ret1 rfl (Res.mk a42 rfl))
    ·replace hm := bf hm hc45
     refine Cw.skip (Cw.region (Lw.m (vI y30) rfl (Lw.add rfl (Lw.g (vI (w64 (y30 + 1))) rfl (Lw.nil (⟨?_, m33, Nat.lt_succ_self m33, ⟨y29, w64 (y30 + 1), W40, rfl, (l31.trans l40), rfl, hm⟩⟩))))))
     iterate 4 (refine .u ?_)
     refine Agree.ov0 rfl ?_
     iterate 7 (refine .u ?_)
     exact Agree.base
   ·refine Cw.draw [] [(0, 0), (1, 1), (2, 0), (3, 0), (4, 1), (5, 0), (6, 0), (7, 2), (8, 0), (9, 0), (10, 0), (11, 0), (12, 0), (13, 0), (14, 1), (15, 0), (16, 0), (17, 1), (18, 0), (19, 1), (20, 0), (21, 1), (22, 0), (23, 0), (24, 0)] mixed (by kernel_rfl) fun W46 l46 => ?_
    have a47 := ((a24.trans a27).trans a34).n l46
    have b49 := b36.up l46 rfl
    refine Mw.p rfl rfl (fun _ => R.fa rfl) (Mw.q rfl rfl (fun _ c => R.ld (v := v19) rfl rfl (b49.clc rfl rfl c)) (Mw.p rfl rfl (fun _ => R.mv (v := vI y30) rfl) ?_))
    obtain ⟨u50, e51, hm⟩ := ob hm
    have s52 := r20.ul a47
    refine Mw.p rfl rfl (fun _ => R.ix (α := Int) s52 e51 rfl rfl rfl) (Mw.q rfl rfl (fun _ c => R.ld rfl rfl (cl_cell (s52.at_ e51).1 rfl (s52.at_ e51).int c)) (Mw.p rfl rfl (fun _ => R.mv (v := vI y4) rfl) (Mw.p rfl rfl (fun _ => R.sub rfl rfl) ?_)))
    obtain ⟨z53, e54, hm⟩ := ob hm
    refine Mw.t rfl rfl (T.call rfl (p87 (K := [0])   e54)) ?_
    rintro _ _ ⟨W55, rfl, l55, rfl⟩
    refine ⟨⟨_, rfl, (l55.sub (M := []) rfl)⟩, ?_⟩
    refine Mw.p rfl rfl (fun _ => R.not rfl) (Mw.p rfl rfl (fun _ => R.mv (v := vB (!z53)) rfl) (bsplit (!z53) (fun hc59 => ?_) (fun hc59 => ?_)))
    ·replace hm := bt hm hc59
     refine Mw.ps hc59 rfl rfl (Mw.ps hc59 rfl rfl (Mw.ps hc59 rfl rfl (Mw.pu rfl rfl (Mw.pu rfl rfl (Mw.pu rfl rfl (Mw.pu rfl rfl (Mw.pu rfl rfl (Mw.pu rfl rfl (Mw.pu rfl rfl (Mw.pu rfl rfl (Mw.pu rfl rfl (Mw.pu rfl rfl (Mw.ps hc59 rfl rfl (Mw.p rfl rfl (fun _ => R.pk hc59 rfl (v := vB true) rfl) (Mw.nil (⟨?_, ⟨true, W55, rfl, (l46.trans l55), rfl, hm⟩⟩))))))))))))))))
     iterate 25 (refine .u ?_)
     exact Agree.refl _
    ·replace hm := bf hm hc59
     refine Mw.gp hc59 rfl rfl rfl rfl rfl (fun _ => R.mv (v := vI y30) rfl) (Mw.gp hc59 rfl rfl rfl rfl rfl (fun _ => R.gt rfl rfl) (Mw.gp hc59 rfl rfl rfl rfl rfl (fun _ => R.mv (v := vB (decide ((0 : Int) < (y30 : Int)))) rfl) (bsplit (decide ((0 : Int) < (y30 : Int))) (fun hc60 => ?_) (fun hc60 => ?_))))
     ·replace hm := bt hm hc60
      refine Mw.gp hc60 rfl rfl rfl rfl rfl (fun _ => R.fa rfl) (Mw.gq hc60 rfl rfl rfl rfl rfl (fun _ c => R.ld (v := v19) rfl rfl (b49.clc rfl rfl c)) (Mw.gp hc60 rfl rfl rfl rfl rfl (fun _ => R.mv (v := vI y30) rfl) ?_))
      obtain ⟨u61, e62, hm⟩ := ob hm
      refine Mw.gp hc60 rfl rfl rfl rfl rfl (fun _ => R.ix (α := Int) s52 e62 rfl rfl rfl) (Mw.gq hc60 rfl rfl rfl rfl rfl (fun _ c => R.ld rfl rfl (cl_cell (s52.at_ e62).1 rfl (s52.at_ e62).int c)) (Mw.gp hc60 rfl rfl rfl rfl rfl (fun _ => R.fa rfl) (Mw.gq hc60 rfl rfl rfl rfl rfl (fun _ c => R.ld (v := v19) rfl rfl (b49.clc rfl rfl c)) ?_)))
      obtain ⟨u63, e64, hm⟩ := ob hm
      refine Mw.gp hc60 rfl rfl rfl rfl rfl (fun _ => R.ix (α := Int) s52 e64 rfl rfl rfl) (Mw.gq hc60 rfl rfl rfl rfl rfl (fun _ c => R.ld rfl rfl (cl_cell (s52.at_ e64).1 rfl (s52.at_ e64).int c)) (Mw.gp hc60 rfl rfl rfl rfl rfl (fun _ => R.eq rfl rfl) (Mw.gp hc59 rfl rfl rfl rfl rfl (fun _ => R.pk hc60 rfl (v := vB ((u61 : Int) == (u63 : Int))) rfl) (Mw.p rfl rfl (fun _ => R.pk hc59 rfl (v := vB ((u61 : Int) == (u63 : Int))) rfl) (Mw.nil (⟨?_, ⟨((u61 : Int) == (u63 : Int)), W55, rfl, (l46.trans l55), rfl, hm⟩⟩))))))
      iterate 25 (refine .u ?_)
      exact Agree.refl _
     ·replace hm := bf hm hc60
      refine Mw.ps hc60 rfl rfl (Mw.ps hc60 rfl rfl (Mw.ps hc60 rfl rfl (Mw.ps hc60 rfl rfl (Mw.ps hc60 rfl rfl (Mw.ps hc60 rfl rfl (Mw.ps hc60 rfl rfl (Mw.ps hc60 rfl rfl (Mw.ps hc60 rfl rfl (Mw.ps hc60 rfl rfl (Mw.gp hc59 rfl rfl rfl rfl rfl (fun _ => R.pk hc60 rfl (v := vB false) rfl) (Mw.p rfl rfl (fun _ => R.pk hc59 rfl (v := vB false) rfl) (Mw.nil (⟨?_, ⟨false, W55, rfl, (l46.trans l55), rfl, hm⟩⟩)))))))))))))
      iterate 25 (refine .u ?_)
      exact Agree.refl _
  ·replace hm := bf hm hc38
   refine Cw.exit ?_
   rw [hK32] at hm
   obtain ⟨K67, hK67, hm⟩ := jn_e hm
   refine Cw.join 51 66 [66] (fun l w => ∃ (y65 : Bool) (W66 : CW), W66.w = w ∧ Le [] W31 W66 ∧ l = [vB y65] ∧ K67 y65 = some r) ?_ ?_
   ·rintro _ _ σ ⟨y65, W66, rfl, l66, rfl, hm⟩
    rw [hK67] at hm
    have a68 := (((a10.trans a24).trans a27).trans a34).n l66
    refine Cw.cond (b := y65) rfl (fun hc71 => ?_) (fun hc71 => ?_)
    ·replace hm := bt hm hc71
     refine Cw.seq (Cw.region (Lw.g (vB false) rfl (Lw.nil ?_)))
     cases hm
     exact Cw.ret (ret1 rfl (Res.mk a68 rfl))
    ·replace hm := bf hm hc71
     refine Cw.skip (Cw.region (Lw.m (vI y4) rfl (Lw.add rfl (Lw.g (vI (w64 (y4 + 1))) rfl (Lw.nil (⟨?_, m9, Nat.lt_succ_self m9, ⟨y29, w64 (y4 + 1), ptr (bx g23), vI y30, W66, rfl, (l7.trans ((l23.sub rfl).trans (l26.trans ((l31.sub rfl).trans (l66.sub rfl))))), rfl, hm⟩⟩))))))
     iterate 4 (refine .u ?_)
     refine Agree.ov0 rfl ?_
     iterate 7 (refine .u ?_)
     refine Agree.ov0 rfl ?_
     iterate 16 (refine .u ?_)
     exact Agree.base
   ·refine Cw.region (Lw.fa rfl (Lw.r rfl (R.ld (v := v19) rfl rfl (b36.cell rfl)) (Lw.ln u14.Parents s37 rfl (Lw.gt rfl (Lw.m (vB (decide ((2 : Int) < ((u14.Parents.length : Int) : Int)))) rfl (bsplit (decide ((2 : Int) < ((u14.Parents.length : Int) : Int))) (fun hc72 => ?_) (fun hc72 => ?_)))))))
    ·replace hm := bt hm hc72
     refine Lw.ps hc72 rfl (Lw.ps hc72 rfl (Lw.ps hc72 rfl (Lw.ps hc72 rfl (Lw.p hc72 (vB true) rfl (Lw.m (vB true) rfl (Lw.ps rfl rfl (Lw.ps rfl rfl (Lw.ps rfl rfl (Lw.ps rfl rfl (Lw.p rfl (vB true) rfl (Lw.nil (⟨?_, ⟨true, W31, rfl, Le.refl _ _, rfl, hm⟩⟩))))))))))))
     iterate 16 (refine .u ?_)
     exact Agree.refl _
    ·replace hm := bf hm hc72
     refine Lw.wa hc72 rfl (Lw.fa rfl (Lw.wa hc72 rfl (Lw.r rfl (R.ld (v := vS u14.Who) rfl rfl (b36.cell rfl)) (Lw.wa hc72 rfl ?_))))
     obtain ⟨z73, e74, hm⟩ := ob hm
     refine Lw.t rfl (T.call rfl (p102 (K := [0])   e74)) ?_
     rintro _ _ ⟨W75, rfl, l75, rfl⟩
     have a76 := ((a24.trans a27).trans a34).n l75
     refine Lw.wa hc72 rfl (Lw.r rfl (R.not rfl) (Lw.p hc72 (vB (!z73)) rfl (Lw.m (vB (!z73)) rfl (bsplit (!z73) (fun hc79 => ?_) (fun hc79 => ?_)))))
     ·replace hm := bt hm hc79
      refine Lw.ps hc79 rfl (Lw.ps hc79 rfl (Lw.ps hc79 rfl (Lw.ps hc79 rfl (Lw.p hc79 (vB true) rfl (Lw.nil (⟨?_, ⟨true, W75, rfl, l75, rfl, hm⟩⟩))))))
      iterate 16 (refine .u ?_)
      exact Agree.refl _
     ·replace hm := bf hm hc79
      refine Lw.wa hc79 rfl (Lw.fa rfl (Lw.wa hc79 rfl (Lw.r rfl (R.ld (v := v21) rfl rfl ((b36.up l75 rfl).cell rfl)) (Lw.wa hc79 rfl ?_))))
      obtain ⟨z81, e82, hm⟩ := ob hm
      refine Lw.t rfl (T.call rfl (p114 (K := [0])  (r22.ul a76) e82)) ?_
      rintro _ _ ⟨W83, rfl, l83, rfl⟩
      refine Lw.wa hc79 rfl (Lw.r rfl (R.not rfl) (Lw.p hc79 (vB (!z81)) rfl (Lw.nil (⟨?_, ⟨(!z81), W83, rfl, (l75.trans l83), rfl, hm⟩⟩))))
      iterate 16 (refine .u ?_)
      exact Agree.refl _
 ·replace hm := bf hm hc13
  refine Cw.exit ?_
  rw [hK8] at hm
  refine Cw.seq (Cw.seq (Cw.region (Lw.g (vI 0) rfl (Lw.nil (Cw.block ?_)))))
  obtain ⟨K90, hK90, hm⟩ := jn_e hm
  refine Cw.loop 67 115 [2, 6] (fun m l w => ∃ (y87 : Bool) (y88 : Int) (W89 : CW), W89.w = w ∧ Le [] W7 W89 ∧ l = [vB y87, vI y88] ∧ Vm.spec_l7Ok_l3 x0 K90 m y87 y88 = some r) (((x0.Heads.length : Int) - 0).toNat + 1) ⟨y3, 0, W7, rfl, Le.refl _ _, rfl, hm⟩ ?_
  rintro m91 _ _ σ ⟨y87, y88, W89, rfl, l89, rfl, hm⟩
  obtain _ | m91 := m91
  ·cases hm
  unfold Vm.spec_l7Ok_l3 at hm
  have a92 := a10.n l89
  have b93 := b11.up l89 rfl
  refine Cw.seq (Cw.seq (Cw.region (Lw.m (vI y88) rfl (Lw.fa rfl (Lw.r rfl (R.ld (v := v0_1_) rfl rfl (b93.cell rfl)) (Lw.ln x0.Heads (h0_1.ul a92) rfl (Lw.lt rfl (Lw.nil (Cw.cond (b := decide ((y88 : Int) < ((x0.Heads.length : Int) : Int))) rfl (fun hc95 => ?_) (fun hc95 => ?_))))))))))
  ·replace hm := bt hm hc95
   refine Cw.skip (Cw.seq (Cw.block ?_))
   obtain ⟨K98, hK98, hm⟩ := jn_e hm
   refine Cw.join 74 115 [115] (fun l w => ∃ (y96 : Bool) (W97 : CW), W97.w = w ∧ Le [] W89 W97 ∧ l = [vB y96] ∧ K98 y96 = some r) ?_ ?_
   ·rintro _ _ σ ⟨y96, W97, rfl, l97, rfl, hm⟩
    rw [hK98] at hm
    have a99 := a92.n l97
    refine Cw.cond (b := y96) rfl (fun hc101 => ?_) (fun hc101 => ?_)
    ·replace hm := bt hm hc101
     refine Cw.seq (Cw.region (Lw.g (vB false) rfl (Lw.nil ?_)))
     cases hm
     exact Cw.ret (ret1 rfl (Res.mk a99 rfl))
    ·replace hm := bf hm hc101
     refine Cw.skip (Cw.region (Lw.m (vI y88) rfl (Lw.add rfl (Lw.g (vI (w64 (y88 + 1))) rfl (Lw.nil (⟨?_, m91, Nat.lt_succ_self m91, ⟨y87, w64 (y88 + 1), W97, rfl, (l89.trans l97), rfl, hm⟩⟩))))))
     iterate 4 (refine .u ?_)
     refine Agree.ov0 rfl ?_
     iterate 7 (refine .u ?_)
     exact Agree.base
   ·refine Cw.draw [] [(0, 0), (1, 1), (2, 0), (3, 0), (4, 0), (5, 1), (6, 2), (7, 0), (8, 0), (9, 0), (10, 1), (11, 0), (12, 0), (13, 0), (14, 1), (15, 0), (16, 1), (17, 0), (18, 0), (19, 2), (20, 0), (21, 0), (22, 0), (23, 0), (24, 0), (25, 0), (26, 0), (27, 1), (28, 0), (29, 0), (30, 0), (31, 1), (32, 0), (33, 1), (34, 0), (35, 0), (36, 0), (37, 0), (38, 1), (39, 0), (40, 0), (41, 0)] mixed (by kernel_rfl) fun W102 l102 => ?_
    have a103 := a92.n l102
    have b104 := b93.up l102 rfl
    refine Mw.p rfl rfl (fun _ => R.fa rfl) (Mw.q rfl rfl (fun _ c => R.ld (v := v0_1_) rfl rfl (b104.clc rfl rfl c)) (Mw.p rfl rfl (fun _ => R.mv (v := vI y88) rfl) ?_))
    obtain ⟨u105, e106, hm⟩ := ob hm
    have s107 := h0_1.ul a103
    refine Mw.p rfl rfl (fun _ => R.ix (α := Head) s107 e106 rfl rfl rfl) (Mw.p rfl rfl (fun _ => R.fa rfl) (Mw.q rfl rfl (fun _ c => R.ld rfl rfl (cl_cell (Head.at0 (s107.at_ e106)).1 rfl (Head.at0 (s107.at_ e106)).str c)) ?_))
    obtain ⟨z108, e109, hm⟩ := ob hm
    refine Mw.t rfl rfl (T.call rfl (p102 (K := [0])   e109)) ?_
    rintro _ _ ⟨W110, rfl, l110, rfl⟩
    have a111 := a103.n l110
    refine ⟨⟨_, rfl, (l110.sub (M := []) rfl)⟩, ?_⟩
    refine Mw.p rfl rfl (fun _ => R.not rfl) (Mw.p rfl rfl (fun _ => R.mv (v := vB (!z108)) rfl) (bsplit (!z108) (fun hc113 => ?_) (fun hc113 => ?_)))
    ·replace hm := bt hm hc113
     refine Mw.ps hc113 rfl rfl (Mw.ps hc113 rfl rfl (Mw.ps hc113 rfl rfl (Mw.ps hc113 rfl rfl (Mw.ps hc113 rfl rfl (Mw.ps hc113 rfl rfl (Mw.ps hc113 rfl rfl (Mw.ps hc113 rfl rfl (Mw.ps hc113 rfl rfl (Mw.ps hc113 rfl rfl (Mw.ps hc113 rfl rfl (Mw.ps hc113 rfl rfl (Mw.p rfl rfl (fun _ => R.pk hc113 rfl (v := vB true) rfl) (Mw.p rfl rfl (fun _ => R.mv (v := vB true) rfl) (Mw.ps rfl rfl rfl (Mw.ps rfl rfl rfl (Mw.ps rfl rfl rfl (Mw.pu rfl rfl (Mw.pu rfl rfl (Mw.pu rfl rfl (Mw.pu rfl rfl (Mw.pu rfl rfl (Mw.pu rfl rfl (Mw.pu rfl rfl (Mw.pu rfl rfl (Mw.pu rfl rfl (Mw.pu rfl rfl (Mw.pu rfl rfl (Mw.pu rfl rfl (Mw.pu rfl rfl (Mw.pu rfl rfl (Mw.ps rfl rfl rfl (Mw.p rfl rfl (fun _ => R.pk rfl rfl (v := vB true) rfl) (Mw.nil (⟨?_, ⟨true, W110, rfl, (l102.trans l110), rfl, hm⟩⟩))))))))))))))))))))))))))))))))))
     iterate 42 (refine .u ?_)
     exact Agree.refl _
    ·replace hm := bf hm hc113
     refine Mw.gp hc113 rfl rfl rfl rfl rfl (fun _ => R.fa rfl) (Mw.gq hc113 rfl rfl rfl rfl rfl (fun _ c => R.ld (v := v0_1_) rfl rfl (b104.clc rfl rfl c)) (Mw.gp hc113 rfl rfl rfl rfl rfl (fun _ => R.mv (v := vI y88) rfl) ?_))
     obtain ⟨u114, e115, hm⟩ := ob hm
     refine Mw.gp hc113 rfl rfl rfl rfl rfl (fun _ => R.ix (α := Head) s107 e115 rfl rfl rfl) (Mw.gp hc113 rfl rfl rfl rfl rfl (fun _ => R.fa rfl) (Mw.gq hc113 rfl rfl rfl rfl rfl (fun _ c => R.ld rfl rfl (cl_cell (Head.at1 (s107.at_ e115)).1 rfl (Head.at1 (s107.at_ e115)).int c)) (Mw.gp hc113 rfl rfl rfl rfl rfl (fun _ => R.fa rfl) (Mw.gq hc113 rfl rfl rfl rfl rfl (fun _ c => R.ld (v := v0_0_) rfl rfl (b104.clc rfl rfl c)) (Mw.gp hc113 rfl rfl rfl rfl rfl (fun _ => lenR (xs := x0.Commits) (h0_0.ul a111) rfl) (Mw.gp hc113 rfl rfl rfl rfl rfl (fun _ => R.sub rfl rfl) ?_))))))
     obtain ⟨z117, e118, hm⟩ := ob hm
     refine Mw.gt hc113 rfl rfl rfl rfl rfl (T.call rfl (p87 (K := [0])   e118)) ?_
     rintro _ _ ⟨W119, rfl, l119, rfl⟩
     refine ⟨⟨_, rfl, ((l110.sub (M := []) rfl).trans (l119.sub (M := []) rfl))⟩, ?_⟩
     refine Mw.gp hc113 rfl rfl rfl rfl rfl (fun _ => R.not rfl) (Mw.p rfl rfl (fun _ => R.pk hc113 rfl (v := vB (!z117)) rfl) (Mw.p rfl rfl (fun _ => R.mv (v := vB (!z117)) rfl) (bsplit (!z117) (fun hc122 => ?_) (fun hc122 => ?_))))
     ·replace hm := bt hm hc122
      refine Mw.ps hc122 rfl rfl (Mw.ps hc122 rfl rfl (Mw.ps hc122 rfl rfl (Mw.pu rfl rfl (Mw.pu rfl rfl (Mw.pu rfl rfl (Mw.pu rfl rfl (Mw.pu rfl rfl (Mw.pu rfl rfl (Mw.pu rfl rfl (Mw.pu rfl rfl (Mw.pu rfl rfl (Mw.pu rfl rfl (Mw.pu rfl rfl (Mw.pu rfl rfl (Mw.pu rfl rfl (Mw.pu rfl rfl (Mw.ps hc122 rfl rfl (Mw.p rfl rfl (fun _ => R.pk hc122 rfl (v := vB true) rfl) (Mw.nil (⟨?_, ⟨true, W119, rfl, (l102.trans (l110.trans l119)), rfl, hm⟩⟩))))))))))))))))))))
      iterate 42 (refine .u ?_)
      exact Agree.refl _
     ·replace hm := bf hm hc122
      refine Mw.gp hc122 rfl rfl rfl rfl rfl (fun _ => R.mv (v := vI y88) rfl) (Mw.gp hc122 rfl rfl rfl rfl rfl (fun _ => R.gt rfl rfl) (Mw.gp hc122 rfl rfl rfl rfl rfl (fun _ => R.mv (v := vB (decide ((0 : Int) < (y88 : Int)))) rfl) (bsplit (decide ((0 : Int) < (y88 : Int))) (fun hc123 => ?_) (fun hc123 => ?_))))
      ·replace hm := bt hm hc123
       refine Mw.gp hc123 rfl rfl rfl rfl rfl (fun _ => R.fa rfl) (Mw.gq hc123 rfl rfl rfl rfl rfl (fun _ c => R.ld (v := v0_1_) rfl rfl (b104.clc rfl rfl c)) (Mw.gp hc123 rfl rfl rfl rfl rfl (fun _ => R.mv (v := vI y88) rfl) ?_))
       obtain ⟨u124, e125, hm⟩ := ob hm
       refine Mw.gp hc123 rfl rfl rfl rfl rfl (fun _ => R.ix (α := Head) s107 e125 rfl rfl rfl) (Mw.gp hc123 rfl rfl rfl rfl rfl (fun _ => R.fa rfl) (Mw.gq hc123 rfl rfl rfl rfl rfl (fun _ c => R.ld rfl rfl (cl_cell (Head.at0 (s107.at_ e125)).1 rfl (Head.at0 (s107.at_ e125)).str c)) (Mw.gp hc123 rfl rfl rfl rfl rfl (fun _ => R.fa rfl) (Mw.gq hc123 rfl rfl rfl rfl rfl (fun _ c => R.ld (v := v0_1_) rfl rfl (b104.clc rfl rfl c)) (Mw.gp hc123 rfl rfl rfl rfl rfl (fun _ => R.mv (v := vI y88) rfl) (Mw.gp hc123 rfl rfl rfl rfl rfl (fun _ => R.sub rfl rfl) ?_))))))
       obtain ⟨u126, e127, hm⟩ := ob hm
       refine Mw.gp hc123 rfl rfl rfl rfl rfl (fun _ => R.ix (α := Head) s107 e127 rfl rfl rfl) (Mw.gp hc123 rfl rfl rfl rfl rfl (fun _ => R.fa rfl) (Mw.gq hc123 rfl rfl rfl rfl rfl (fun _ c => R.ld rfl rfl (cl_cell (Head.at0 (s107.at_ e127)).1 rfl (Head.at0 (s107.at_ e127)).str c)) (Mw.gp hc123 rfl rfl rfl rfl rfl (fun _ => R.sle rfl rfl) (Mw.gp hc122 rfl rfl rfl rfl rfl (fun _ => R.pk hc123 rfl (v := vB (Op.bytesLess u124.Name u126.Name || u124.Name == u126.Name)) rfl) (Mw.p rfl rfl (fun _ => R.pk hc122 rfl (v := vB (Op.bytesLess u124.Name u126.Name || u124.Name == u126.Name)) rfl) (Mw.nil (⟨?_, ⟨(Op.bytesLess u124.Name u126.Name || u124.Name == u126.Name), W119, rfl, (l102.trans (l110.trans l119)), rfl, hm⟩⟩)))))))
       iterate 42 (refine .u ?_)
       exact Agree.refl _
      ·replace hm := bf hm hc123
       refine Mw.ps hc123 rfl rfl (Mw.ps hc123 rfl rfl (Mw.ps hc123 rfl rfl (Mw.ps hc123 rfl rfl (Mw.ps hc123 rfl rfl (Mw.ps hc123 rfl rfl (Mw.ps hc123 rfl rfl (Mw.ps hc123 rfl rfl (Mw.ps hc123 rfl rfl (Mw.ps hc123 rfl rfl (Mw.ps hc123 rfl rfl (Mw.ps hc123 rfl rfl (Mw.ps hc123 rfl rfl (Mw.ps hc123 rfl rfl (Mw.gp hc122 rfl rfl rfl rfl rfl (fun _ => R.pk hc123 rfl (v := vB false) rfl) (Mw.p rfl rfl (fun _ => R.pk hc122 rfl (v := vB false) rfl) (Mw.nil (⟨?_, ⟨false, W119, rfl, (l102.trans (l110.trans l119)), rfl, hm⟩⟩)))))))))))))))))
       iterate 42 (refine .u ?_)
       exact Agree.refl _
  ·replace hm := bf hm hc95
   refine Cw.exit ?_
   rw [hK90] at hm
   obtain ⟨K130, hK130, hm⟩ := jn_e hm
   refine Cw.join 116 125 [2] (fun l w => ∃ (y128 : Bool) (W129 : CW), W129.w = w ∧ Le [] W89 W129 ∧ l = [vB y128] ∧ K130 y128 = some r) ?_ ?_
   ·rintro _ _ σ ⟨y128, W129, rfl, l129, rfl, hm⟩
    rw [hK130] at hm
    have a131 := a92.n l129
    cases hm
    exact Cw.ret (ret1 rfl (Res.mk a131 rfl))
   ·refine Cw.region (Lw.fa rfl (Lw.r rfl (R.ld (v := v0_0_) rfl rfl (b93.cell rfl)) (Lw.ln x0.Commits (h0_0.ul a92) rfl (Lw.le rfl (Lw.m (vB (decide (((x0.Commits.length : Int) : Int) ≤ (16 : Int)))) rfl (bsplit (decide (((x0.Commits.length : Int) : Int) ≤ (16 : Int))) (fun hc134 => ?_) (fun hc134 => ?_)))))))
    ·replace hm := bt hm hc134
     refine Lw.wa hc134 rfl (Lw.fa rfl (Lw.wa hc134 rfl (Lw.r rfl (R.ld (v := v0_1_) rfl rfl (b93.cell rfl)) (Lw.wa hc134 rfl (Lw.ln x0.Heads (h0_1.ul a92) rfl (Lw.wa hc134 rfl (Lw.le rfl (Lw.p hc134 (vB (decide (((x0.Heads.length : Int) : Int) ≤ (5 : Int)))) rfl (Lw.g (vB (decide (((x0.Heads.length : Int) : Int) ≤ (5 : Int)))) rfl (Lw.nil (⟨?_, ⟨decide (((x0.Heads.length : Int) : Int) ≤ (5 : Int)), W89, rfl, Le.refl _ _, rfl, hm⟩⟩)))))))))))
     iterate 11 (refine .u ?_)
     exact Agree.refl _
    ·replace hm := bf hm hc134
     refine Lw.ps hc134 rfl (Lw.ps hc134 rfl (Lw.ps hc134 rfl (Lw.ps hc134 rfl (Lw.p hc134 (vB false) rfl (Lw.g (vB false) rfl (Lw.nil (⟨?_, ⟨false, W89, rfl, Le.refl _ _, rfl, hm⟩⟩)))))))
     iterate 11 (refine .u ?_)
     exact Agree.refl _

theorem p55 {W : CW} {K : List Nat} {x0 : Vm.Repo} {v0_0_ : Value} {v0_1_ : Value} {r : Bool} (h0 : Rd W K [v0_0_, v0_1_] x0) (hm : Vm.spec_l7Ok x0 = some r) : CallR Tryd.prog 55 [.agg [v0_0_, v0_1_].toArray].toArray W.w (Res W [] fun W' v => v = vB r) :=
 (c55 (V := W.view K []) (h0.view _) hm).ad (fk 0) fun _ _ e => e

end Go.Sx
