/- Walks: each function answers as its model, printed by a program of ours. Conditions: the arguments read as they are given. -/
import Derived.Test.YtmjjhnahdmlmaaaDoorXTs
import Derived.Test.YtmjjhnahdmlmaaaDoorXMd
import Derived.Test.YtmjjhnahdmlmaaaDoorXW1
import Derived.Test.YtmjjhnahdmlmaaaDoorXE
namespace Go.Sx
open Go Go.Proofs Go.Vm Rp
set_option linter.unusedVariables false
set_option linter.unusedSimpArgs false

theorem c11 {V : CW} {x0 : Vm.Op} {v0_6_ : Value} {r : Str} (h0 : Rd V [0] [vI x0.Kind, vS x0.Branch, vS x0.Who, vS x0.Path, vS x0.To, vI x0.At, v0_6_] x0) (hm : Vm.spec_OpPut x0 = some r) : CallR Tryd.prog 11 [.agg [vI x0.Kind, vS x0.Branch, vS x0.Who, vS x0.Path, vS x0.To, vI x0.At, v0_6_].toArray].toArray V.w (Res V LL fun Wf v => v = vS r) := by
 unfold Vm.spec_OpPut at hm
 obtain ⟨w0_0, he0, h0_6⟩ := Op.split h0
 simp only [List.cons.injEq, and_true, true_and] at he0
 obtain rfl := he0
 obtain ⟨W0, hW0⟩ : ∃ W, W = V := ⟨V, rfl⟩
 subst hW0
 refine CallR.of Tryd.func11 rfl rfl rfl rfl (Cw.seq (Cw.region (Lw.t rfl (T.box 2 (v := .agg [vI x0.Kind, vS x0.Branch, vS x0.Who, vS x0.Path, vS x0.To, vI x0.At, v0_6_].toArray) (cs := [vI x0.Kind, vS x0.Branch, vS x0.Who, vS x0.Path, vS x0.To, vI x0.At, v0_6_]) rfl rfl) ?_)))
 rintro _ _ ⟨g1, W1, rfl, rfl, l1, b1⟩
 have a2 := l1.o
 refine Lw.g (vS ([] : Str)) rfl (Lw.nil (Cw.seq (Cw.seq (Cw.region (Lw.r rfl (R.lda (cs := [vI x0.Kind, vS x0.Branch, vS x0.Who, vS x0.Path, vS x0.To, vI x0.At, v0_6_]) b1.cells rfl rfl) ?_)))))
 obtain ⟨z4, e5, hm⟩ := ob hm
 refine Lw.t rfl (T.call rfl (p48 (K := [0])  (Op.rd (K := [0]) x0.Kind x0.Branch x0.Who x0.Path x0.To x0.At x0.Text (h0_6.ul a2)) e5)) ?_
 rintro _ _ ⟨W6, rfl, l6, rfl⟩
 have a7 := a2.n l6
 refine Lw.r rfl (R.not rfl) (Lw.nil (Cw.cond (b := (!z4)) rfl (fun hc9 => ?_) (fun hc9 => ?_)))
 ·replace hm := bt hm hc9
  refine Cw.seq (Cw.region (Lw.g (vS ([] : Str)) rfl (Lw.nil ?_)))
  cases hm
  exact Cw.ret (ret1 rfl (Res.mk a7 rfl))
 ·replace hm := bf hm hc9
  refine Cw.skip (Cw.seq (Cw.region (Lw.r rfl (R.lda (cs := [vI x0.Kind, vS x0.Branch, vS x0.Who, vS x0.Path, vS x0.To, vI x0.At, v0_6_]) (b1.up l6 rfl).cells rfl rfl) ?_)))
  obtain ⟨z11, e12, hm⟩ := ob hm
  refine Lw.t rfl (T.call rfl (p49 (K := [0])  (Op.rd (K := [0]) x0.Kind x0.Branch x0.Who x0.Path x0.To x0.At x0.Text (h0_6.ul a7)) e12)) ?_
  rintro _ _ ⟨W13, rfl, l13, rfl⟩
  have a14 := a7.n l13
  refine Lw.g (vS z11) rfl (Lw.nil ?_)
  cases hm
  exact Cw.ret (ret1 rfl (Res.mk a14 rfl))

theorem p11 {W : CW} {K : List Nat} {x0 : Vm.Op} {v0_6_ : Value} {r : Str} (h0 : Rd W K [vI x0.Kind, vS x0.Branch, vS x0.Who, vS x0.Path, vS x0.To, vI x0.At, v0_6_] x0) (hm : Vm.spec_OpPut x0 = some r) : CallR Tryd.prog 11 [.agg [vI x0.Kind, vS x0.Branch, vS x0.Who, vS x0.Path, vS x0.To, vI x0.At, v0_6_].toArray].toArray W.w (Res W [] fun W' v => v = vS r) :=
 (c11 (V := W.view K []) (h0.view _) hm).ad (fk 0) fun _ _ e => e

theorem c83 {V : CW} {x0 : Int} {x1 : Int} {x2 : Int} {r : Bool}  (hm : Vm.impl_within x0 x1 x2 = some r) : CallR Tryd.prog 83 [vI x0, vI x1, vI x2].toArray V.w (Res V LL fun Wf v => v = vB r) := by
 unfold Vm.impl_within at hm
 obtain ⟨W0, hW0⟩ : ∃ W, W = V := ⟨V, rfl⟩
 subst hW0
 refine CallR.of Tryd.func83 rfl rfl rfl rfl (Cw.seq (Cw.region (Lw.g (vB false) rfl (Lw.nil ?_))))
 obtain ⟨K3, hK3, hm⟩ := jn_e hm
 refine Cw.join 7 14 [6] (fun l w => ∃ (y1 : Bool) (W2 : CW), W2.w = w ∧ Le [] W0 W2 ∧ l = [vB y1] ∧ K3 y1 = some r) ?_ ?_
 ·rintro _ _ σ ⟨y1, W2, rfl, l2, rfl, hm⟩
  rw [hK3] at hm
  have a4 := l2.o
  cases hm
  exact Cw.ret (ret1 rfl (Res.mk a4 rfl))
 ·refine Cw.region (Lw.m (vI x1) rfl (Lw.m (vI x0) rfl (Lw.le rfl (Lw.m (vB (decide ((x1 : Int) ≤ (x0 : Int)))) rfl (bsplit (decide ((x1 : Int) ≤ (x0 : Int))) (fun hc5 => ?_) (fun hc5 => ?_))))))
  ·replace hm := bt hm hc5
   refine Lw.want' hc5 rfl rfl rfl rfl (Lw.m (vI x0) rfl (Lw.want' hc5 rfl rfl rfl rfl (Lw.m (vI x2) rfl (Lw.want' hc5 rfl rfl rfl rfl (Lw.le rfl (Lw.p hc5 (vB (decide ((x0 : Int) ≤ (x2 : Int)))) rfl (Lw.g (vB (decide ((x0 : Int) ≤ (x2 : Int)))) rfl (Lw.nil (⟨?_, ⟨decide ((x0 : Int) ≤ (x2 : Int)), W0, rfl, Le.refl _ _, rfl, hm⟩⟩)))))))))
   iterate 9 (refine Agree.up rfl ?_)
   exact Agree.refl _
  ·replace hm := bf hm hc5
   refine Lw.pass' hc5 rfl rfl rfl rfl rfl rfl rfl (Lw.pass' hc5 rfl rfl rfl rfl rfl rfl rfl (Lw.pass' hc5 rfl rfl rfl rfl rfl rfl rfl (Lw.p hc5 (vB false) rfl (Lw.g (vB false) rfl (Lw.nil (⟨?_, ⟨false, W0, rfl, Le.refl _ _, rfl, hm⟩⟩))))))
   iterate 9 (refine Agree.up rfl ?_)
   exact Agree.refl _

theorem p83 {W : CW} {K : List Nat} {x0 : Int} {x1 : Int} {x2 : Int} {r : Bool}  (hm : Vm.impl_within x0 x1 x2 = some r) : CallR Tryd.prog 83 [vI x0, vI x1, vI x2].toArray W.w (Res W [] fun W' v => v = vB r) :=
 (c83 (V := W.view K [])  hm).ad (fk 0) fun _ _ e => e

theorem c123 {V : CW} {x0 : Byte} {r : Bool}  (hm : Vm.impl_wordByte x0 = some r) : CallR Tryd.prog 123 [.int .u8 (UInt8.toNat x0 : Int)].toArray V.w (Res V LL fun Wf v => v = vB r) := by
 unfold Vm.impl_wordByte at hm
 obtain ⟨W0, hW0⟩ : ∃ W, W = V := ⟨V, rfl⟩
 subst hW0
 refine CallR.of Tryd.func123 rfl rfl rfl rfl (Cw.seq (Cw.region (Lw.g (vB false) rfl (Lw.nil ?_))))
 obtain ⟨K3, hK3, hm⟩ := jn_e hm
 refine Cw.join 3 16 [2] (fun l w => ∃ (y1 : Bool) (W2 : CW), W2.w = w ∧ Le [] W0 W2 ∧ l = [vB y1] ∧ K3 y1 = some r) ?_ ?_
 ·rintro _ _ σ ⟨y1, W2, rfl, l2, rfl, hm⟩
  rw [hK3] at hm
  have a4 := l2.o
  cases hm
  exact Cw.ret (ret1 rfl (Res.mk a4 rfl))
 ·refine Cw.region (Lw.m (.int .u8 (UInt8.toNat x0 : Int)) rfl (Lw.ge rfl (Lw.m (vB (decide ((97 : Int) ≤ ((UInt8.toNat x0 : Int) : Int)))) rfl (bsplit (decide ((97 : Int) ≤ ((UInt8.toNat x0 : Int) : Int))) (fun hc5 => ?_) (fun hc5 => ?_)))))
  ·replace hm := bt hm hc5
   refine Lw.want' hc5 rfl rfl rfl rfl (Lw.m (.int .u8 (UInt8.toNat x0 : Int)) rfl (Lw.want' hc5 rfl rfl rfl rfl (Lw.le rfl (Lw.p hc5 (vB (decide (((UInt8.toNat x0 : Int) : Int) ≤ (122 : Int)))) rfl (Lw.m (vB (decide (((UInt8.toNat x0 : Int) : Int) ≤ (122 : Int)))) rfl (bsplit (decide (((UInt8.toNat x0 : Int) : Int) ≤ (122 : Int))) (fun hc6 => ?_) (fun hc6 => ?_)))))))
   ·replace hm := bt hm hc6
    refine Lw.pass' hc6 rfl rfl rfl rfl rfl rfl rfl (Lw.pass' hc6 rfl rfl rfl rfl rfl rfl rfl (Lw.pass' hc6 rfl rfl rfl rfl rfl rfl rfl (Lw.passU rfl rfl rfl rfl rfl rfl (Lw.passU rfl rfl rfl rfl rfl rfl (Lw.pass' hc6 rfl rfl rfl rfl rfl rfl rfl (Lw.p hc6 (vB true) rfl (Lw.g (vB true) rfl (Lw.nil (⟨?_, ⟨true, W0, rfl, Le.refl _ _, rfl, hm⟩⟩)))))))))
    iterate 15 (refine Agree.up rfl ?_)
    exact Agree.refl _
   ·replace hm := bf hm hc6
    refine Lw.want' hc6 rfl rfl rfl rfl (Lw.m (.int .u8 (UInt8.toNat x0 : Int)) rfl (Lw.want' hc6 rfl rfl rfl rfl (Lw.ge rfl (Lw.want' hc6 rfl rfl rfl rfl (Lw.m (vB (decide ((48 : Int) ≤ ((UInt8.toNat x0 : Int) : Int)))) rfl (bsplit (decide ((48 : Int) ≤ ((UInt8.toNat x0 : Int) : Int))) (fun hc7 => ?_) (fun hc7 => ?_)))))))
    ·replace hm := bt hm hc7
     refine Lw.want' hc7 rfl rfl rfl rfl (Lw.m (.int .u8 (UInt8.toNat x0 : Int)) rfl (Lw.want' hc7 rfl rfl rfl rfl (Lw.le rfl (Lw.want' hc6 rfl rfl rfl rfl (Lw.p hc7 (vB (decide (((UInt8.toNat x0 : Int) : Int) ≤ (57 : Int)))) rfl (Lw.p hc6 (vB (decide (((UInt8.toNat x0 : Int) : Int) ≤ (57 : Int)))) rfl (Lw.g (vB (decide (((UInt8.toNat x0 : Int) : Int) ≤ (57 : Int)))) rfl (Lw.nil (⟨?_, ⟨decide (((UInt8.toNat x0 : Int) : Int) ≤ (57 : Int)), W0, rfl, Le.refl _ _, rfl, hm⟩⟩)))))))))
     iterate 15 (refine Agree.up rfl ?_)
     exact Agree.refl _
    ·replace hm := bf hm hc7
     refine Lw.pass' hc7 rfl rfl rfl rfl rfl rfl rfl (Lw.pass' hc7 rfl rfl rfl rfl rfl rfl rfl (Lw.want' hc6 rfl rfl rfl rfl (Lw.p hc7 (vB false) rfl (Lw.p hc6 (vB false) rfl (Lw.g (vB false) rfl (Lw.nil (⟨?_, ⟨false, W0, rfl, Le.refl _ _, rfl, hm⟩⟩)))))))
     iterate 15 (refine Agree.up rfl ?_)
     exact Agree.refl _
  ·replace hm := bf hm hc5
   refine Lw.pass' hc5 rfl rfl rfl rfl rfl rfl rfl (Lw.pass' hc5 rfl rfl rfl rfl rfl rfl rfl (Lw.p hc5 (vB false) rfl (Lw.m (vB false) rfl (Lw.want' rfl rfl rfl rfl rfl (Lw.m (.int .u8 (UInt8.toNat x0 : Int)) rfl (Lw.want' rfl rfl rfl rfl rfl (Lw.ge rfl (Lw.want' rfl rfl rfl rfl rfl (Lw.m (vB (decide ((48 : Int) ≤ ((UInt8.toNat x0 : Int) : Int)))) rfl (bsplit (decide ((48 : Int) ≤ ((UInt8.toNat x0 : Int) : Int))) (fun hc8 => ?_) (fun hc8 => ?_)))))))))))
   ·replace hm := bt hm hc8
    refine Lw.want' hc8 rfl rfl rfl rfl (Lw.m (.int .u8 (UInt8.toNat x0 : Int)) rfl (Lw.want' hc8 rfl rfl rfl rfl (Lw.le rfl (Lw.want' rfl rfl rfl rfl rfl (Lw.p hc8 (vB (decide (((UInt8.toNat x0 : Int) : Int) ≤ (57 : Int)))) rfl (Lw.p rfl (vB (decide (((UInt8.toNat x0 : Int) : Int) ≤ (57 : Int)))) rfl (Lw.g (vB (decide (((UInt8.toNat x0 : Int) : Int) ≤ (57 : Int)))) rfl (Lw.nil (⟨?_, ⟨decide (((UInt8.toNat x0 : Int) : Int) ≤ (57 : Int)), W0, rfl, Le.refl _ _, rfl, hm⟩⟩)))))))))
    iterate 15 (refine Agree.up rfl ?_)
    exact Agree.refl _
   ·replace hm := bf hm hc8
    refine Lw.pass' hc8 rfl rfl rfl rfl rfl rfl rfl (Lw.pass' hc8 rfl rfl rfl rfl rfl rfl rfl (Lw.want' rfl rfl rfl rfl rfl (Lw.p hc8 (vB false) rfl (Lw.p rfl (vB false) rfl (Lw.g (vB false) rfl (Lw.nil (⟨?_, ⟨false, W0, rfl, Le.refl _ _, rfl, hm⟩⟩)))))))
    iterate 15 (refine Agree.up rfl ?_)
    exact Agree.refl _

theorem p123 {W : CW} {K : List Nat} {x0 : Byte} {r : Bool}  (hm : Vm.impl_wordByte x0 = some r) : CallR Tryd.prog 123 [.int .u8 (UInt8.toNat x0 : Int)].toArray W.w (Res W [] fun W' v => v = vB r) :=
 (c123 (V := W.view K [])  hm).ad (fk 0) fun _ _ e => e

theorem c81 {V : CW} {x0 : Str} {r : Bool}  (hm : Vm.impl_nameOk x0 = some r) : CallR Tryd.prog 81 [vS x0].toArray V.w (Res V LL fun Wf v => v = vB r) := by
 unfold Vm.impl_nameOk at hm
 obtain ⟨W0, hW0⟩ : ∃ W, W = V := ⟨V, rfl⟩
 subst hW0
 refine CallR.of Tryd.func81 rfl rfl rfl rfl (Cw.seq (Cw.region (Lw.g (vB false) rfl (Lw.nil (Cw.seq (Cw.seq (Cw.region (Lw.m (vS x0) rfl (Lw.r rfl (R.lenS rfl) ?_)))))))))
 obtain ⟨z1, e2, hm⟩ := ob hm
 refine Lw.t rfl (T.call rfl (p83 (K := [0])   e2)) ?_
 rintro _ _ ⟨W3, rfl, l3, rfl⟩
 have a4 := l3.o
 refine Lw.r rfl (R.not rfl) (Lw.nil (Cw.cond (b := (!z1)) rfl (fun hc5 => ?_) (fun hc5 => ?_)))
 ·replace hm := bt hm hc5
  refine Cw.seq (Cw.region (Lw.g (vB false) rfl (Lw.nil ?_)))
  cases hm
  exact Cw.ret (ret1 rfl (Res.mk a4 rfl))
 ·replace hm := bf hm hc5
  refine Cw.skip (Cw.seq (Cw.seq (Cw.region (Lw.g (vI 0) rfl (Lw.nil (Cw.block ?_))))))
  obtain ⟨K9, hK9, hm⟩ := jn_e hm
  refine Cw.loop 8 18 [2, 3] (fun m l w => ∃ (y6 : Bool) (y7 : Int) (W8 : CW), W8.w = w ∧ Le [] W3 W8 ∧ l = [vB y6, vI y7] ∧ Vm.impl_nameOk_l1 x0 K9 m y6 y7 = some r) (((x0.length : Int) - 0).toNat + 1) ⟨false, 0, W3, rfl, Le.refl _ _, rfl, hm⟩ ?_
  rintro m10 _ _ σ ⟨y6, y7, W8, rfl, l8, rfl, hm⟩
  obtain _ | m10 := m10
  ·cases hm
  unfold Vm.impl_nameOk_l1 at hm
  have a11 := a4.n l8
  refine Cw.seq (Cw.seq (Cw.region (Lw.m (vI y7) rfl (Lw.m (vS x0) rfl (Lw.r rfl (R.lenS rfl) (Lw.lt rfl (Lw.nil (Cw.cond (b := decide ((y7 : Int) < ((x0.length : Int) : Int))) rfl (fun hc12 => ?_) (fun hc12 => ?_)))))))))
  ·replace hm := bt hm hc12
   refine Cw.skip (Cw.seq (Cw.block (Cw.seq (Cw.region (Lw.m (vS x0) rfl (Lw.m (vI y7) rfl ?_))))))
   obtain ⟨u13, e14, hm⟩ := ob hm
   refine Lw.r rfl (R.chm e14 rfl rfl) ?_
   obtain ⟨z15, e16, hm⟩ := ob hm
   refine Lw.t rfl (T.call rfl (p123 (K := [0])   e16)) ?_
   rintro _ _ ⟨W17, rfl, l17, rfl⟩
   have a18 := a11.n l17
   refine Lw.r rfl (R.not rfl) (Lw.nil (Cw.cond (b := (!z15)) rfl (fun hc19 => ?_) (fun hc19 => ?_)))
   ·replace hm := bt hm hc19
    refine Cw.seq (Cw.region (Lw.g (vB false) rfl (Lw.nil ?_)))
    cases hm
    exact Cw.ret (ret1 rfl (Res.mk a18 rfl))
   ·replace hm := bf hm hc19
    refine Cw.skip (Cw.region (Lw.m (vI y7) rfl (Lw.add rfl (Lw.g (vI (w64 (y7 + 1))) rfl (Lw.nil (⟨?_, m10, Nat.lt_succ_self m10, ⟨y6, w64 (y7 + 1), W17, rfl, (l8.trans l17), rfl, hm⟩⟩))))))
    iterate 12 (refine Agree.up rfl ?_)
    iterate 2 (refine Agree.up rfl ?_)
    exact Agree.base
  ·replace hm := bf hm hc12
   refine Cw.exit ?_
   rw [hK9] at hm
   refine Cw.seq (Cw.region (Lw.g (vB true) rfl (Lw.nil ?_)))
   cases hm
   exact Cw.ret (ret1 rfl (Res.mk a11 rfl))

theorem p81 {W : CW} {K : List Nat} {x0 : Str} {r : Bool}  (hm : Vm.impl_nameOk x0 = some r) : CallR Tryd.prog 81 [vS x0].toArray W.w (Res W [] fun W' v => v = vB r) :=
 (c81 (V := W.view K [])  hm).ad (fk 0) fun _ _ e => e

theorem c107 {V : CW} {x0 : Str} {r : Bool} (h99 : Gl 2 V [0]) (hm : Vm.impl_PathOk x0 = some r) : CallR Tryd.prog 107 [vS x0].toArray V.w (Res V LL fun Wf v => v = vB r) := by
 unfold Vm.impl_PathOk at hm
 obtain ⟨W0, hW0⟩ : ∃ W, W = V := ⟨V, rfl⟩
 subst hW0
 refine CallR.of Tryd.func107 rfl rfl rfl rfl (Cw.seq (Cw.region (Lw.g (vB false) rfl (Lw.nil (Cw.seq (Cw.region (Lw.m (vS x0) rfl ?_)))))))
 obtain ⟨z1, e2, hm⟩ := ob hm
 refine Lw.t rfl (T.call rfl (p99 (K := [0]) (k0 := 2) h99 e2)) ?_
 rintro v0_3 _ ⟨W3, rfl, l3, ⟨_, rfl, f3_0⟩⟩
 have a4 := l3.o
 refine Lw.g v0_3 rfl (Lw.nil (Cw.seq (Cw.seq (Cw.region (Lw.m v0_3 rfl (Lw.ln z1 f3_0.rd rfl (Lw.gt rfl (Lw.nil (Cw.cond (b := decide ((3 : Int) < ((z1.length : Int) : Int))) rfl (fun hc5 => ?_) (fun hc5 => ?_))))))))))
 ·replace hm := bt hm hc5
  refine Cw.seq (Cw.region (Lw.g (vB false) rfl (Lw.nil ?_)))
  cases hm
  exact Cw.ret (ret1 rfl (Res.mk a4 rfl))
 ·replace hm := bf hm hc5
  refine Cw.skip (Cw.seq (Cw.seq (Cw.region (Lw.m v0_3 rfl (Lw.ln z1 f3_0.rd rfl (Lw.m (vI 0) rfl (Lw.nil (Cw.block ?_))))))))
  obtain ⟨K10, hK10, hm⟩ := jn_e hm
  refine Cw.loop 13 20 [2, 5, 13] (fun m l w => ∃ (y6 : Bool) (y8 : Int) (j7 : Value) (W9 : CW), W9.w = w ∧ Le [] W3 W9 ∧ l = [vB y6, j7, vI y8] ∧ Vm.impl_PathOk_l1 z1 K10 m y6 y8 = some r) (((z1.length : Int) - 0).toNat + 1) ⟨false, 0, undef, W3, rfl, Le.refl _ _, rfl, hm⟩ ?_
  rintro m11 _ _ σ ⟨y6, y8, j7, W9, rfl, l9, rfl, hm⟩
  obtain _ | m11 := m11
  ·cases hm
  unfold Vm.impl_PathOk_l1 at hm
  have a12 := a4.n l9
  refine Cw.seq (Cw.region (Lw.lt rfl (Lw.nil (Cw.seq (Cw.cond (b := decide ((y8 : Int) < ((z1.length : Int) : Int))) rfl (fun hc14 => ?_) (fun hc14 => ?_))))))
  ·replace hm := bt hm hc14
   refine Cw.skip (Cw.seq (Cw.block (Cw.seq (Cw.region ?_))))
   obtain ⟨u15, e16, hm⟩ := ob hm
   refine Lw.r rfl (R.ix (α := Str) (f3_0.up l9 rfl).rd e16 rfl rfl rfl) (Lw.r rfl (R.ld rfl rfl ((f3_0.up l9 rfl).rd.at_ e16).str) (Lw.g (vS u15) rfl (Lw.nil (Cw.seq (Cw.region (Lw.m (vS u15) rfl ?_))))))
   obtain ⟨z17, e18, hm⟩ := ob hm
   refine Lw.t rfl (T.call rfl (p81 (K := [0])   e18)) ?_
   rintro _ _ ⟨W19, rfl, l19, rfl⟩
   have a20 := a12.n l19
   refine Lw.r rfl (R.not rfl) (Lw.nil (Cw.cond (b := (!z17)) rfl (fun hc22 => ?_) (fun hc22 => ?_)))
   ·replace hm := bt hm hc22
    refine Cw.seq (Cw.region (Lw.g (vB false) rfl (Lw.nil ?_)))
    cases hm
    exact Cw.ret (ret1 rfl (Res.mk a20 rfl))
   ·replace hm := bf hm hc22
    refine Cw.skip (Cw.region (Lw.add rfl (Lw.m (vI (w64 (y8 + 1))) rfl (Lw.nil (⟨?_, m11, Nat.lt_succ_self m11, ⟨y6, w64 (y8 + 1), vS u15, W19, rfl, (l9.trans l19), rfl, hm⟩⟩)))))
    iterate 9 (refine Agree.up rfl ?_)
    iterate 3 (refine Agree.up rfl ?_)
    exact Agree.base
  ·replace hm := bf hm hc14
   refine Cw.exit ?_
   rw [hK10] at hm
   refine Cw.seq (Cw.region (Lw.g (vB true) rfl (Lw.nil ?_)))
   cases hm
   exact Cw.ret (ret1 rfl (Res.mk a12 rfl))

theorem p107 {W : CW} {K : List Nat} {x0 : Str} {r : Bool} (h99 : Gl 2 W K) (hm : Vm.impl_PathOk x0 = some r) : CallR Tryd.prog 107 [vS x0].toArray W.w (Res W [] fun W' v => v = vB r) :=
 (c107 (V := W.view K []) (h99.view _) hm).ad (fk 0) fun _ _ e => e

theorem c132 {V : CW} {x0 : Str} {r : Bool}  (hm : Vm.impl_lineOk x0 = some r) : CallR Tryd.prog 132 [vS x0].toArray V.w (Res V LL fun Wf v => v = vB r) := by
 unfold Vm.impl_lineOk at hm
 obtain ⟨W0, hW0⟩ : ∃ W, W = V := ⟨V, rfl⟩
 subst hW0
 refine CallR.of Tryd.func132 rfl rfl rfl rfl (Cw.seq (Cw.region (Lw.g (vB false) rfl (Lw.nil (Cw.seq (Cw.seq (Cw.region (Lw.m (vS x0) rfl (Lw.r rfl (R.lenS rfl) (Lw.gt rfl (Lw.nil (Cw.cond (b := decide ((12 : Int) < ((x0.length : Int) : Int))) rfl (fun hc1 => ?_) (fun hc1 => ?_)))))))))))))
 ·replace hm := bt hm hc1
  refine Cw.seq (Cw.region (Lw.g (vB false) rfl (Lw.nil ?_)))
  cases hm
  exact Cw.ret (ret1 rfl (Res.mk (Le.refl _ _) rfl))
 ·replace hm := bf hm hc1
  refine Cw.skip (Cw.seq (Cw.seq (Cw.region (Lw.g (vI 0) rfl (Lw.nil (Cw.block ?_))))))
  obtain ⟨K5, hK5, hm⟩ := jn_e hm
  refine Cw.loop 7 22 [2, 3] (fun m l w => ∃ (y2 : Bool) (y3 : Int) (W4 : CW), W4.w = w ∧ Le [] W0 W4 ∧ l = [vB y2, vI y3] ∧ Vm.impl_lineOk_l1 x0 K5 m y2 y3 = some r) (((x0.length : Int) - 0).toNat + 1) ⟨false, 0, W0, rfl, Le.refl _ _, rfl, hm⟩ ?_
  rintro m6 _ _ σ ⟨y2, y3, W4, rfl, l4, rfl, hm⟩
  obtain _ | m6 := m6
  ·cases hm
  unfold Vm.impl_lineOk_l1 at hm
  have a7 := l4.o
  refine Cw.seq (Cw.seq (Cw.region (Lw.m (vI y3) rfl (Lw.m (vS x0) rfl (Lw.r rfl (R.lenS rfl) (Lw.lt rfl (Lw.nil (Cw.cond (b := decide ((y3 : Int) < ((x0.length : Int) : Int))) rfl (fun hc8 => ?_) (fun hc8 => ?_)))))))))
  ·replace hm := bt hm hc8
   refine Cw.skip (Cw.seq (Cw.block ?_))
   obtain ⟨K11, hK11, hm⟩ := jn_e hm
   refine Cw.join 13 22 [22] (fun l w => ∃ (y9 : Bool) (W10 : CW), W10.w = w ∧ Le [] W4 W10 ∧ l = [vB y9] ∧ K11 y9 = some r) ?_ ?_
   ·rintro _ _ σ ⟨y9, W10, rfl, l10, rfl, hm⟩
    rw [hK11] at hm
    have a12 := a7.n l10
    refine Cw.cond (b := y9) rfl (fun hc13 => ?_) (fun hc13 => ?_)
    ·replace hm := bt hm hc13
     refine Cw.seq (Cw.region (Lw.g (vB false) rfl (Lw.nil ?_)))
     cases hm
     exact Cw.ret (ret1 rfl (Res.mk a12 rfl))
    ·replace hm := bf hm hc13
     refine Cw.skip (Cw.region (Lw.m (vI y3) rfl (Lw.add rfl (Lw.g (vI (w64 (y3 + 1))) rfl (Lw.nil (⟨?_, m6, Nat.lt_succ_self m6, ⟨y2, w64 (y3 + 1), W10, rfl, (l4.trans l10), rfl, hm⟩⟩))))))
     iterate 3 (refine Agree.up rfl ?_)
     iterate 1 (refine Agree.up rfl ?_)
     refine Agree.ov0 rfl ?_
     iterate 4 (refine Agree.up rfl ?_)
     iterate 2 (refine Agree.up rfl ?_)
     exact Agree.base
   ·refine Cw.region (Lw.m (vS x0) rfl (Lw.m (vI y3) rfl ?_))
    obtain ⟨u14, e15, hm⟩ := ob hm
    refine Lw.r rfl (R.chm e15 rfl rfl) (Lw.lt rfl (Lw.m (vB (decide (((UInt8.toNat u14 : Int) : Int) < (32 : Int)))) rfl (bsplit (decide (((UInt8.toNat u14 : Int) : Int) < (32 : Int))) (fun hc16 => ?_) (fun hc16 => ?_))))
    ·replace hm := bt hm hc16
     refine Lw.pass' hc16 rfl rfl rfl rfl rfl rfl rfl (Lw.pass' hc16 rfl rfl rfl rfl rfl rfl rfl (Lw.pass' hc16 rfl rfl rfl rfl rfl rfl rfl (Lw.pass' hc16 rfl rfl rfl rfl rfl rfl rfl (Lw.p hc16 (vB true) rfl (Lw.nil (⟨?_, ⟨true, W4, rfl, Le.refl _ _, rfl, hm⟩⟩))))))
     iterate 10 (refine Agree.up rfl ?_)
     exact Agree.refl _
    ·replace hm := bf hm hc16
     refine Lw.want' hc16 rfl rfl rfl rfl (Lw.m (vS x0) rfl (Lw.want' hc16 rfl rfl rfl rfl (Lw.m (vI y3) rfl (Lw.want' hc16 rfl rfl rfl rfl ?_))))
     obtain ⟨u17, e18, hm⟩ := ob hm
     refine Lw.r rfl (R.chm e18 rfl rfl) (Lw.want' hc16 rfl rfl rfl rfl (Lw.gt rfl (Lw.p hc16 (vB (decide ((126 : Int) < ((UInt8.toNat u17 : Int) : Int)))) rfl (Lw.nil (⟨?_, ⟨decide ((126 : Int) < ((UInt8.toNat u17 : Int) : Int)), W4, rfl, Le.refl _ _, rfl, hm⟩⟩)))))
     iterate 10 (refine Agree.up rfl ?_)
     exact Agree.refl _
  ·replace hm := bf hm hc8
   refine Cw.exit ?_
   rw [hK5] at hm
   refine Cw.seq (Cw.region (Lw.g (vB true) rfl (Lw.nil ?_)))
   cases hm
   exact Cw.ret (ret1 rfl (Res.mk a7 rfl))

theorem p132 {W : CW} {K : List Nat} {x0 : Str} {r : Bool}  (hm : Vm.impl_lineOk x0 = some r) : CallR Tryd.prog 132 [vS x0].toArray W.w (Res W [] fun W' v => v = vB r) :=
 (c132 (V := W.view K [])  hm).ad (fk 0) fun _ _ e => e

theorem c108 {V : CW} {x0 : List Str} {v0_ : Value} {r : Bool} (h0 : Rd V [0] [v0_] x0) (hm : Vm.impl_TextOk x0 = some r) : CallR Tryd.prog 108 [v0_].toArray V.w (Res V LL fun Wf v => v = vB r) := by
 unfold Vm.impl_TextOk at hm
 obtain ⟨W0, hW0⟩ : ∃ W, W = V := ⟨V, rfl⟩
 subst hW0
 refine CallR.of Tryd.func108 rfl rfl rfl rfl (Cw.seq (Cw.region (Lw.g (vB false) rfl (Lw.nil (Cw.seq (Cw.seq (Cw.region (Lw.m v0_ rfl (Lw.ln x0 h0 rfl (Lw.gt rfl (Lw.nil (Cw.cond (b := decide ((10 : Int) < ((x0.length : Int) : Int))) rfl (fun hc1 => ?_) (fun hc1 => ?_)))))))))))))
 ·replace hm := bt hm hc1
  refine Cw.seq (Cw.region (Lw.g (vB false) rfl (Lw.nil ?_)))
  cases hm
  exact Cw.ret (ret1 rfl (Res.mk (Le.refl _ _) rfl))
 ·replace hm := bf hm hc1
  refine Cw.skip (Cw.seq (Cw.seq (Cw.region (Lw.m v0_ rfl (Lw.ln x0 h0 rfl (Lw.m (vI 0) rfl (Lw.nil (Cw.block ?_))))))))
  obtain ⟨K6, hK6, hm⟩ := jn_e hm
  refine Cw.loop 10 17 [2, 4, 10] (fun m l w => ∃ (y2 : Bool) (y4 : Int) (j3 : Value) (W5 : CW), W5.w = w ∧ Le [] W0 W5 ∧ l = [vB y2, j3, vI y4] ∧ Vm.impl_TextOk_l1 x0 K6 m y2 y4 = some r) (((x0.length : Int) - 0).toNat + 1) ⟨false, 0, undef, W0, rfl, Le.refl _ _, rfl, hm⟩ ?_
  rintro m7 _ _ σ ⟨y2, y4, j3, W5, rfl, l5, rfl, hm⟩
  obtain _ | m7 := m7
  ·cases hm
  unfold Vm.impl_TextOk_l1 at hm
  have a8 := l5.o
  refine Cw.seq (Cw.region (Lw.lt rfl (Lw.nil (Cw.seq (Cw.cond (b := decide ((y4 : Int) < ((x0.length : Int) : Int))) rfl (fun hc9 => ?_) (fun hc9 => ?_))))))
  ·replace hm := bt hm hc9
   refine Cw.skip (Cw.seq (Cw.block (Cw.seq (Cw.region ?_))))
   obtain ⟨u10, e11, hm⟩ := ob hm
   refine Lw.r rfl (R.ix (α := Str) (h0.ul a8) e11 rfl rfl rfl) (Lw.r rfl (R.ld rfl rfl ((h0.ul a8).at_ e11).str) (Lw.g (vS u10) rfl (Lw.nil (Cw.seq (Cw.region (Lw.m (vS u10) rfl ?_))))))
   obtain ⟨z13, e14, hm⟩ := ob hm
   refine Lw.t rfl (T.call rfl (p132 (K := [0])   e14)) ?_
   rintro _ _ ⟨W15, rfl, l15, rfl⟩
   have a16 := a8.n l15
   refine Lw.r rfl (R.not rfl) (Lw.nil (Cw.cond (b := (!z13)) rfl (fun hc17 => ?_) (fun hc17 => ?_)))
   ·replace hm := bt hm hc17
    refine Cw.seq (Cw.region (Lw.g (vB false) rfl (Lw.nil ?_)))
    cases hm
    exact Cw.ret (ret1 rfl (Res.mk a16 rfl))
   ·replace hm := bf hm hc17
    refine Cw.skip (Cw.region (Lw.add rfl (Lw.m (vI (w64 (y4 + 1))) rfl (Lw.nil (⟨?_, m7, Nat.lt_succ_self m7, ⟨y2, w64 (y4 + 1), vS u10, W15, rfl, (l5.trans l15), rfl, hm⟩⟩)))))
    iterate 9 (refine Agree.up rfl ?_)
    iterate 3 (refine Agree.up rfl ?_)
    exact Agree.base
  ·replace hm := bf hm hc9
   refine Cw.exit ?_
   rw [hK6] at hm
   refine Cw.seq (Cw.region (Lw.g (vB true) rfl (Lw.nil ?_)))
   cases hm
   exact Cw.ret (ret1 rfl (Res.mk a8 rfl))

theorem p108 {W : CW} {K : List Nat} {x0 : List Str} {v0_ : Value} {r : Bool} (h0 : Rd W K [v0_] x0) (hm : Vm.impl_TextOk x0 = some r) : CallR Tryd.prog 108 [v0_].toArray W.w (Res W [] fun W' v => v = vB r) :=
 (c108 (V := W.view K []) (h0.view _) hm).ad (fk 0) fun _ _ e => e

theorem c51 {V : CW} {x0 : Vm.Op} {v0_6_ : Value} {r : Bool} (h0 : Rd V [0] [vI x0.Kind, vS x0.Branch, vS x0.Who, vS x0.Path, vS x0.To, vI x0.At, v0_6_] x0) (h99 : Gl 2 V [0]) (hm : Vm.impl_OpOk x0 = some r) : CallR Tryd.prog 51 [.agg [vI x0.Kind, vS x0.Branch, vS x0.Who, vS x0.Path, vS x0.To, vI x0.At, v0_6_].toArray].toArray V.w (Res V LL fun Wf v => v = vB r) := by
 unfold Vm.impl_OpOk at hm
 obtain ⟨w0_0, he0, h0_6⟩ := Op.split h0
 simp only [List.cons.injEq, and_true, true_and] at he0
 obtain rfl := he0
 obtain ⟨W0, hW0⟩ : ∃ W, W = V := ⟨V, rfl⟩
 subst hW0
 refine CallR.of Tryd.func51 rfl rfl rfl rfl (Cw.seq (Cw.region (Lw.t rfl (T.box 2 (v := .agg [vI x0.Kind, vS x0.Branch, vS x0.Who, vS x0.Path, vS x0.To, vI x0.At, v0_6_].toArray) (cs := [vI x0.Kind, vS x0.Branch, vS x0.Who, vS x0.Path, vS x0.To, vI x0.At, v0_6_]) rfl rfl) ?_)))
 rintro _ _ ⟨g1, W1, rfl, rfl, l1, b1⟩
 have a2 := l1.o
 refine Lw.g (vB false) rfl (Lw.nil (Cw.seq ?_))
 obtain ⟨K5, hK5, hm⟩ := jn_e hm
 refine Cw.join 7 16 [16] (fun l w => ∃ (y3 : Bool) (W4 : CW), W4.w = w ∧ Le [] W1 W4 ∧ l = [vB y3] ∧ K5 y3 = some r) ?_ ?_
 ·rintro _ _ σ ⟨y3, W4, rfl, l4, rfl, hm⟩
  rw [hK5] at hm
  have a6 := a2.n l4
  refine Cw.cond (b := y3) rfl (fun hc8 => ?_) (fun hc8 => ?_)
  ·replace hm := bt hm hc8
   refine Cw.seq (Cw.region (Lw.g (vB false) rfl (Lw.nil ?_)))
   cases hm
   exact Cw.ret (ret1 rfl (Res.mk a6 rfl))
  ·replace hm := bf hm hc8
   refine Cw.skip (Cw.seq (Cw.draw [] [(0, 0), (1, 1), (2, 0), (3, 0), (4, 1), (5, 0), (6, 0), (7, 1), (8, 0), (9, 0), (10, 1), (11, 0), (12, 0), (13, 0), (14, 0), (15, 0), (16, 0)] mixed (by kernel_rfl) fun W9 l9 => ?_))
   have a10 := a6.n l9
   have b11 := (b1.up l4 rfl).up l9 rfl
   refine Mw.p rfl rfl (fun _ => R.fa rfl) (Mw.q rfl rfl (fun _ c => R.ld (v := vS x0.Path) rfl rfl (b11.clc rfl rfl c)) (Mw.p rfl rfl (fun _ => R.seq rfl rfl) (Mw.p rfl rfl (fun _ => R.fa rfl) (Mw.q rfl rfl (fun _ c => R.ld (v := vS x0.To) rfl rfl (b11.clc rfl rfl c)) (Mw.p rfl rfl (fun _ => R.seq rfl rfl) (Mw.p rfl rfl (fun _ => R.fa rfl) (Mw.q rfl rfl (fun _ c => R.ld (v := vI x0.At) rfl rfl (b11.clc rfl rfl c)) (Mw.p rfl rfl (fun _ => R.eq rfl rfl) (Mw.p rfl rfl (fun _ => R.fa rfl) (Mw.q rfl rfl (fun _ c => R.ld (v := v0_6_) rfl rfl (b11.clc rfl rfl c)) (Mw.p rfl rfl (fun _ => lenR (xs := x0.Text) (h0_6.ul a10) rfl) (Mw.p rfl rfl (fun _ => R.eq rfl rfl) (Mw.p rfl rfl (fun _ => R.as (v := vB (x0.Path == ([] : Str))) rfl) (Mw.p rfl rfl (fun _ => R.as (v := vB (x0.To == ([] : Str))) rfl) (Mw.p rfl rfl (fun _ => R.as (v := vB ((x0.At : Int) == (0 : Int))) rfl) (Mw.p rfl rfl (fun _ => R.as (v := vB (((x0.Text.length : Int) : Int) == (0 : Int))) rfl) (Mw.nil (Cw.seq (Cw.seq (Cw.region (Lw.fa rfl (Lw.r rfl (R.ld (v := vI x0.Kind) rfl rfl (b11.cell rfl)) (Lw.nil (Cw.block (Cw.seq (Cw.region (Lw.eq rfl (Lw.g (vB ((x0.Kind : Int) == (1 : Int))) rfl (Lw.nil (Cw.cond (b := ((x0.Kind : Int) == (1 : Int))) rfl (fun hc13 => ?_) (fun hc13 => ?_)))))))))))))))))))))))))))))))
   ·replace hm := bt hm hc13
    obtain ⟨K16, hK16, hm⟩ := jn_e hm
    refine Cw.join 34 54 [2] (fun l w => ∃ (y14 : Bool) (W15 : CW), W15.w = w ∧ Le [] W9 W15 ∧ l = [vB y14] ∧ K16 y14 = some r) ?_ ?_
    ·rintro _ _ σ ⟨y14, W15, rfl, l15, rfl, hm⟩
     rw [hK16] at hm
     have a17 := a10.n l15
     cases hm
     exact Cw.ret (ret1 rfl (Res.mk a17 rfl))
    ·refine Cw.region (Lw.fa rfl (Lw.r rfl (R.ld (v := vS x0.Path) rfl rfl (b11.cell rfl)) ?_))
     obtain ⟨z20, e21, hm⟩ := ob hm
     refine Lw.t rfl (T.call rfl (p107 (K := [0])  (h99.ul a10) e21)) ?_
     rintro _ _ ⟨W22, rfl, l22, rfl⟩
     have a23 := a10.n l22
     refine Lw.m (vB z20) rfl (bsplit z20 (fun hc25 => ?_) (fun hc25 => ?_))
     ·replace hm := bt hm hc25
      refine Lw.want' hc25 rfl rfl rfl rfl (Lw.fa rfl (Lw.want' hc25 rfl rfl rfl rfl (Lw.r rfl (R.ld (v := v0_6_) rfl rfl ((b11.up l22 rfl).cell rfl)) (Lw.want' hc25 rfl rfl rfl rfl ?_))))
      obtain ⟨z27, e28, hm⟩ := ob hm
      refine Lw.t rfl (T.call rfl (p108 (K := [0])  (h0_6.ul a23) e28)) ?_
      rintro _ _ ⟨W29, rfl, l29, rfl⟩
      have a30 := a23.n l29
      refine Lw.p hc25 (vB z27) rfl (Lw.m (vB z27) rfl (bsplit z27 (fun hc32 => ?_) (fun hc32 => ?_)))
      ·replace hm := bt hm hc32
       refine Lw.want' hc32 rfl rfl rfl rfl (Lw.fa rfl (Lw.want' hc32 rfl rfl rfl rfl (Lw.r rfl (R.ld (v := v0_6_) rfl rfl (((b11.up l22 rfl).up l29 rfl).cell rfl)) (Lw.want' hc32 rfl rfl rfl rfl ?_))))
       obtain ⟨z34, e35, hm⟩ := ob hm
       refine Lw.t rfl (T.call rfl (p110 (K := [0])  (h0_6.ul a30) e35)) ?_
       rintro _ _ ⟨W36, rfl, l36, rfl⟩
       have a37 := a30.n l36
       refine Lw.want' hc32 rfl rfl rfl rfl ?_
       obtain ⟨z40, e41, hm⟩ := ob hm
       refine Lw.t rfl (T.call rfl (p109 (K := [0])  (h99.ul a37) e41)) ?_
       rintro _ _ ⟨W42, rfl, l42, rfl⟩
       refine Lw.want' hc32 rfl rfl rfl rfl (Lw.r rfl (R.not rfl) (Lw.p hc32 (vB (!z40)) rfl (Lw.m (vB (!z40)) rfl (bsplit (!z40) (fun hc45 => ?_) (fun hc45 => ?_)))))
       ·replace hm := bt hm hc45
        refine Lw.want' hc45 rfl rfl rfl rfl (Lw.m (vB (x0.To == ([] : Str))) rfl (Lw.p hc45 (vB (x0.To == ([] : Str))) rfl (Lw.m (vB (x0.To == ([] : Str))) rfl (bsplit (x0.To == ([] : Str)) (fun hc46 => ?_) (fun hc46 => ?_)))))
        ·replace hm := bt hm hc46
         refine Lw.want' hc46 rfl rfl rfl rfl (Lw.m (vB ((x0.At : Int) == (0 : Int))) rfl (Lw.p hc46 (vB ((x0.At : Int) == (0 : Int))) rfl (Lw.g (vB ((x0.At : Int) == (0 : Int))) rfl (Lw.nil (⟨?_, ⟨((x0.At : Int) == (0 : Int)), W42, rfl, (l22.trans (l29.trans (l36.trans l42))), rfl, hm⟩⟩)))))
         iterate 22 (refine Agree.up rfl ?_)
         exact Agree.refl _
        ·replace hm := bf hm hc46
         refine Lw.pass' hc46 rfl rfl rfl rfl rfl rfl rfl (Lw.p hc46 (vB false) rfl (Lw.g (vB false) rfl (Lw.nil (⟨?_, ⟨false, W42, rfl, (l22.trans (l29.trans (l36.trans l42))), rfl, hm⟩⟩))))
         iterate 22 (refine Agree.up rfl ?_)
         exact Agree.refl _
       ·replace hm := bf hm hc45
        refine Lw.pass' hc45 rfl rfl rfl rfl rfl rfl rfl (Lw.p hc45 (vB false) rfl (Lw.m (vB false) rfl (Lw.pass' rfl rfl rfl rfl rfl rfl rfl rfl (Lw.p rfl (vB false) rfl (Lw.g (vB false) rfl (Lw.nil (⟨?_, ⟨false, W42, rfl, (l22.trans (l29.trans (l36.trans l42))), rfl, hm⟩⟩)))))))
        iterate 22 (refine Agree.up rfl ?_)
        exact Agree.refl _
      ·replace hm := bf hm hc32
       refine Lw.pass' hc32 rfl rfl rfl rfl rfl rfl rfl (Lw.pass' hc32 rfl rfl rfl rfl rfl rfl rfl (Lw.pass' hc32 rfl rfl rfl rfl rfl rfl rfl (Lw.pass' hc32 rfl rfl rfl rfl rfl rfl rfl (Lw.pass' hc32 rfl rfl rfl rfl rfl rfl rfl (Lw.p hc32 (vB false) rfl (Lw.m (vB false) rfl (Lw.pass' rfl rfl rfl rfl rfl rfl rfl rfl (Lw.p rfl (vB false) rfl (Lw.m (vB false) rfl (Lw.pass' rfl rfl rfl rfl rfl rfl rfl rfl (Lw.p rfl (vB false) rfl (Lw.g (vB false) rfl (Lw.nil (⟨?_, ⟨false, W29, rfl, (l22.trans l29), rfl, hm⟩⟩))))))))))))))
       iterate 22 (refine Agree.up rfl ?_)
       exact Agree.refl _
     ·replace hm := bf hm hc25
      refine Lw.pass' hc25 rfl rfl rfl rfl rfl rfl rfl (Lw.pass' hc25 rfl rfl rfl rfl rfl rfl rfl (Lw.pass' hc25 rfl rfl rfl rfl rfl rfl rfl (Lw.p hc25 (vB false) rfl (Lw.m (vB false) rfl (Lw.pass' rfl rfl rfl rfl rfl rfl rfl rfl (Lw.pass' rfl rfl rfl rfl rfl rfl rfl rfl (Lw.pass' rfl rfl rfl rfl rfl rfl rfl rfl (Lw.pass' rfl rfl rfl rfl rfl rfl rfl rfl (Lw.pass' rfl rfl rfl rfl rfl rfl rfl rfl (Lw.p rfl (vB false) rfl (Lw.m (vB false) rfl (Lw.pass' rfl rfl rfl rfl rfl rfl rfl rfl (Lw.p rfl (vB false) rfl (Lw.m (vB false) rfl (Lw.pass' rfl rfl rfl rfl rfl rfl rfl rfl (Lw.p rfl (vB false) rfl (Lw.g (vB false) rfl (Lw.nil (⟨?_, ⟨false, W22, rfl, l22, rfl, hm⟩⟩)))))))))))))))))))
      iterate 22 (refine Agree.up rfl ?_)
      exact Agree.refl _
   ·replace hm := bf hm hc13
    refine Cw.seq (Cw.region (Lw.eq rfl (Lw.g (vB ((x0.Kind : Int) == (2 : Int))) rfl (Lw.nil (Cw.cond (b := ((x0.Kind : Int) == (2 : Int))) rfl (fun hc47 => ?_) (fun hc47 => ?_))))))
    ·replace hm := bt hm hc47
     obtain ⟨K50, hK50, hm⟩ := jn_e hm
     refine Cw.join 57 68 [2] (fun l w => ∃ (y48 : Bool) (W49 : CW), W49.w = w ∧ Le [] W9 W49 ∧ l = [vB y48] ∧ K50 y48 = some r) ?_ ?_
     ·rintro _ _ σ ⟨y48, W49, rfl, l49, rfl, hm⟩
      rw [hK50] at hm
      have a51 := a10.n l49
      cases hm
      exact Cw.ret (ret1 rfl (Res.mk a51 rfl))
     ·refine Cw.region (Lw.fa rfl (Lw.r rfl (R.ld (v := vS x0.Path) rfl rfl (b11.cell rfl)) ?_))
      obtain ⟨z54, e55, hm⟩ := ob hm
      refine Lw.t rfl (T.call rfl (p107 (K := [0])  (h99.ul a10) e55)) ?_
      rintro _ _ ⟨W56, rfl, l56, rfl⟩
      refine Lw.m (vB z54) rfl (bsplit z54 (fun hc59 => ?_) (fun hc59 => ?_))
      ·replace hm := bt hm hc59
       refine Lw.want' hc59 rfl rfl rfl rfl (Lw.m (vB (x0.To == ([] : Str))) rfl (Lw.p hc59 (vB (x0.To == ([] : Str))) rfl (Lw.m (vB (x0.To == ([] : Str))) rfl (bsplit (x0.To == ([] : Str)) (fun hc60 => ?_) (fun hc60 => ?_)))))
       ·replace hm := bt hm hc60
        refine Lw.want' hc60 rfl rfl rfl rfl (Lw.m (vB ((x0.At : Int) == (0 : Int))) rfl (Lw.p hc60 (vB ((x0.At : Int) == (0 : Int))) rfl (Lw.m (vB ((x0.At : Int) == (0 : Int))) rfl (bsplit ((x0.At : Int) == (0 : Int)) (fun hc61 => ?_) (fun hc61 => ?_)))))
        ·replace hm := bt hm hc61
         refine Lw.want' hc61 rfl rfl rfl rfl (Lw.m (vB (((x0.Text.length : Int) : Int) == (0 : Int))) rfl (Lw.p hc61 (vB (((x0.Text.length : Int) : Int) == (0 : Int))) rfl (Lw.g (vB (((x0.Text.length : Int) : Int) == (0 : Int))) rfl (Lw.nil (⟨?_, ⟨(((x0.Text.length : Int) : Int) == (0 : Int)), W56, rfl, l56, rfl, hm⟩⟩)))))
         iterate 13 (refine Agree.up rfl ?_)
         exact Agree.refl _
        ·replace hm := bf hm hc61
         refine Lw.pass' hc61 rfl rfl rfl rfl rfl rfl rfl (Lw.p hc61 (vB false) rfl (Lw.g (vB false) rfl (Lw.nil (⟨?_, ⟨false, W56, rfl, l56, rfl, hm⟩⟩))))
         iterate 13 (refine Agree.up rfl ?_)
         exact Agree.refl _
       ·replace hm := bf hm hc60
        refine Lw.pass' hc60 rfl rfl rfl rfl rfl rfl rfl (Lw.p hc60 (vB false) rfl (Lw.m (vB false) rfl (Lw.pass' rfl rfl rfl rfl rfl rfl rfl rfl (Lw.p rfl (vB false) rfl (Lw.g (vB false) rfl (Lw.nil (⟨?_, ⟨false, W56, rfl, l56, rfl, hm⟩⟩)))))))
        iterate 13 (refine Agree.up rfl ?_)
        exact Agree.refl _
      ·replace hm := bf hm hc59
       refine Lw.pass' hc59 rfl rfl rfl rfl rfl rfl rfl (Lw.p hc59 (vB false) rfl (Lw.m (vB false) rfl (Lw.pass' rfl rfl rfl rfl rfl rfl rfl rfl (Lw.p rfl (vB false) rfl (Lw.m (vB false) rfl (Lw.pass' rfl rfl rfl rfl rfl rfl rfl rfl (Lw.p rfl (vB false) rfl (Lw.g (vB false) rfl (Lw.nil (⟨?_, ⟨false, W56, rfl, l56, rfl, hm⟩⟩))))))))))
       iterate 13 (refine Agree.up rfl ?_)
       exact Agree.refl _
    ·replace hm := bf hm hc47
     refine Cw.seq (Cw.region (Lw.eq rfl (Lw.g (vB ((x0.Kind : Int) == (3 : Int))) rfl (Lw.nil (Cw.cond (b := ((x0.Kind : Int) == (3 : Int))) rfl (fun hc62 => ?_) (fun hc62 => ?_))))))
     ·replace hm := bt hm hc62
      obtain ⟨K65, hK65, hm⟩ := jn_e hm
      refine Cw.join 71 84 [2] (fun l w => ∃ (y63 : Bool) (W64 : CW), W64.w = w ∧ Le [] W9 W64 ∧ l = [vB y63] ∧ K65 y63 = some r) ?_ ?_
      ·rintro _ _ σ ⟨y63, W64, rfl, l64, rfl, hm⟩
       rw [hK65] at hm
       have a66 := a10.n l64
       cases hm
       exact Cw.ret (ret1 rfl (Res.mk a66 rfl))
      ·refine Cw.region (Lw.fa rfl (Lw.r rfl (R.ld (v := vS x0.Path) rfl rfl (b11.cell rfl)) ?_))
       obtain ⟨z69, e70, hm⟩ := ob hm
       refine Lw.t rfl (T.call rfl (p107 (K := [0])  (h99.ul a10) e70)) ?_
       rintro _ _ ⟨W71, rfl, l71, rfl⟩
       have a72 := a10.n l71
       refine Lw.m (vB z69) rfl (bsplit z69 (fun hc74 => ?_) (fun hc74 => ?_))
       ·replace hm := bt hm hc74
        refine Lw.want' hc74 rfl rfl rfl rfl (Lw.fa rfl (Lw.want' hc74 rfl rfl rfl rfl (Lw.r rfl (R.ld (v := vS x0.To) rfl rfl ((b11.up l71 rfl).cell rfl)) (Lw.want' hc74 rfl rfl rfl rfl ?_))))
        obtain ⟨z76, e77, hm⟩ := ob hm
        refine Lw.t rfl (T.call rfl (p107 (K := [0])  (h99.ul a72) e77)) ?_
        rintro _ _ ⟨W78, rfl, l78, rfl⟩
        refine Lw.p hc74 (vB z76) rfl (Lw.m (vB z76) rfl (bsplit z76 (fun hc81 => ?_) (fun hc81 => ?_)))
        ·replace hm := bt hm hc81
         refine Lw.want' hc81 rfl rfl rfl rfl (Lw.m (vB ((x0.At : Int) == (0 : Int))) rfl (Lw.p hc81 (vB ((x0.At : Int) == (0 : Int))) rfl (Lw.m (vB ((x0.At : Int) == (0 : Int))) rfl (bsplit ((x0.At : Int) == (0 : Int)) (fun hc82 => ?_) (fun hc82 => ?_)))))
         ·replace hm := bt hm hc82
          refine Lw.want' hc82 rfl rfl rfl rfl (Lw.m (vB (((x0.Text.length : Int) : Int) == (0 : Int))) rfl (Lw.p hc82 (vB (((x0.Text.length : Int) : Int) == (0 : Int))) rfl (Lw.g (vB (((x0.Text.length : Int) : Int) == (0 : Int))) rfl (Lw.nil (⟨?_, ⟨(((x0.Text.length : Int) : Int) == (0 : Int)), W78, rfl, (l71.trans l78), rfl, hm⟩⟩)))))
          iterate 15 (refine Agree.up rfl ?_)
          exact Agree.refl _
         ·replace hm := bf hm hc82
          refine Lw.pass' hc82 rfl rfl rfl rfl rfl rfl rfl (Lw.p hc82 (vB false) rfl (Lw.g (vB false) rfl (Lw.nil (⟨?_, ⟨false, W78, rfl, (l71.trans l78), rfl, hm⟩⟩))))
          iterate 15 (refine Agree.up rfl ?_)
          exact Agree.refl _
        ·replace hm := bf hm hc81
         refine Lw.pass' hc81 rfl rfl rfl rfl rfl rfl rfl (Lw.p hc81 (vB false) rfl (Lw.m (vB false) rfl (Lw.pass' rfl rfl rfl rfl rfl rfl rfl rfl (Lw.p rfl (vB false) rfl (Lw.g (vB false) rfl (Lw.nil (⟨?_, ⟨false, W78, rfl, (l71.trans l78), rfl, hm⟩⟩)))))))
         iterate 15 (refine Agree.up rfl ?_)
         exact Agree.refl _
       ·replace hm := bf hm hc74
        refine Lw.pass' hc74 rfl rfl rfl rfl rfl rfl rfl (Lw.pass' hc74 rfl rfl rfl rfl rfl rfl rfl (Lw.pass' hc74 rfl rfl rfl rfl rfl rfl rfl (Lw.p hc74 (vB false) rfl (Lw.m (vB false) rfl (Lw.pass' rfl rfl rfl rfl rfl rfl rfl rfl (Lw.p rfl (vB false) rfl (Lw.m (vB false) rfl (Lw.pass' rfl rfl rfl rfl rfl rfl rfl rfl (Lw.p rfl (vB false) rfl (Lw.g (vB false) rfl (Lw.nil (⟨?_, ⟨false, W71, rfl, l71, rfl, hm⟩⟩))))))))))))
        iterate 15 (refine Agree.up rfl ?_)
        exact Agree.refl _
     ·replace hm := bf hm hc62
      obtain ⟨K85, hK85, hm⟩ := jn_e hm
      refine Cw.join 85 87 [85] (fun l w => ∃ (y83 : Bool) (W84 : CW), W84.w = w ∧ Le [] W9 W84 ∧ l = [vB y83] ∧ K85 y83 = some r) ?_ ?_
      ·rintro _ _ σ ⟨y83, W84, rfl, l84, rfl, hm⟩
       rw [hK85] at hm
       have a86 := a10.n l84
       refine Cw.cond (b := y83) rfl (fun hc88 => ?_) (fun hc88 => ?_)
       ·replace hm := bt hm hc88
        obtain ⟨K91, hK91, hm⟩ := jn_e hm
        refine Cw.join 88 99 [2] (fun l w => ∃ (y89 : Bool) (W90 : CW), W90.w = w ∧ Le [] W84 W90 ∧ l = [vB y89] ∧ K91 y89 = some r) ?_ ?_
        ·rintro _ _ σ ⟨y89, W90, rfl, l90, rfl, hm⟩
         rw [hK91] at hm
         have a92 := a86.n l90
         cases hm
         exact Cw.ret (ret1 rfl (Res.mk a92 rfl))
        ·refine Cw.region (Lw.fa rfl (Lw.r rfl (R.ld (v := vS x0.To) rfl rfl ((b11.up l84 rfl).cell rfl)) ?_))
         obtain ⟨z94, e95, hm⟩ := ob hm
         refine Lw.t rfl (T.call rfl (p81 (K := [0])   e95)) ?_
         rintro _ _ ⟨W96, rfl, l96, rfl⟩
         refine Lw.m (vB z94) rfl (bsplit z94 (fun hc99 => ?_) (fun hc99 => ?_))
         ·replace hm := bt hm hc99
          refine Lw.want' hc99 rfl rfl rfl rfl (Lw.m (vB (x0.Path == ([] : Str))) rfl (Lw.p hc99 (vB (x0.Path == ([] : Str))) rfl (Lw.m (vB (x0.Path == ([] : Str))) rfl (bsplit (x0.Path == ([] : Str)) (fun hc100 => ?_) (fun hc100 => ?_)))))
          ·replace hm := bt hm hc100
           refine Lw.want' hc100 rfl rfl rfl rfl (Lw.m (vB ((x0.At : Int) == (0 : Int))) rfl (Lw.p hc100 (vB ((x0.At : Int) == (0 : Int))) rfl (Lw.m (vB ((x0.At : Int) == (0 : Int))) rfl (bsplit ((x0.At : Int) == (0 : Int)) (fun hc101 => ?_) (fun hc101 => ?_)))))
           ·replace hm := bt hm hc101
            refine Lw.want' hc101 rfl rfl rfl rfl (Lw.m (vB (((x0.Text.length : Int) : Int) == (0 : Int))) rfl (Lw.p hc101 (vB (((x0.Text.length : Int) : Int) == (0 : Int))) rfl (Lw.g (vB (((x0.Text.length : Int) : Int) == (0 : Int))) rfl (Lw.nil (⟨?_, ⟨(((x0.Text.length : Int) : Int) == (0 : Int)), W96, rfl, l96, rfl, hm⟩⟩)))))
            iterate 13 (refine Agree.up rfl ?_)
            exact Agree.refl _
           ·replace hm := bf hm hc101
            refine Lw.pass' hc101 rfl rfl rfl rfl rfl rfl rfl (Lw.p hc101 (vB false) rfl (Lw.g (vB false) rfl (Lw.nil (⟨?_, ⟨false, W96, rfl, l96, rfl, hm⟩⟩))))
            iterate 13 (refine Agree.up rfl ?_)
            exact Agree.refl _
          ·replace hm := bf hm hc100
           refine Lw.pass' hc100 rfl rfl rfl rfl rfl rfl rfl (Lw.p hc100 (vB false) rfl (Lw.m (vB false) rfl (Lw.pass' rfl rfl rfl rfl rfl rfl rfl rfl (Lw.p rfl (vB false) rfl (Lw.g (vB false) rfl (Lw.nil (⟨?_, ⟨false, W96, rfl, l96, rfl, hm⟩⟩)))))))
           iterate 13 (refine Agree.up rfl ?_)
           exact Agree.refl _
         ·replace hm := bf hm hc99
          refine Lw.pass' hc99 rfl rfl rfl rfl rfl rfl rfl (Lw.p hc99 (vB false) rfl (Lw.m (vB false) rfl (Lw.pass' rfl rfl rfl rfl rfl rfl rfl rfl (Lw.p rfl (vB false) rfl (Lw.m (vB false) rfl (Lw.pass' rfl rfl rfl rfl rfl rfl rfl rfl (Lw.p rfl (vB false) rfl (Lw.g (vB false) rfl (Lw.nil (⟨?_, ⟨false, W96, rfl, l96, rfl, hm⟩⟩))))))))))
          iterate 13 (refine Agree.up rfl ?_)
          exact Agree.refl _
       ·replace hm := bf hm hc88
        obtain ⟨K104, hK104, hm⟩ := jn_e hm
        refine Cw.join 100 102 [100] (fun l w => ∃ (y102 : Bool) (W103 : CW), W103.w = w ∧ Le [] W84 W103 ∧ l = [vB y102] ∧ K104 y102 = some r) ?_ ?_
        ·rintro _ _ σ ⟨y102, W103, rfl, l103, rfl, hm⟩
         rw [hK104] at hm
         have a105 := a86.n l103
         refine Cw.cond (b := y102) rfl (fun hc107 => ?_) (fun hc107 => ?_)
         ·replace hm := bt hm hc107
          obtain ⟨K110, hK110, hm⟩ := jn_e hm
          refine Cw.join 103 114 [2] (fun l w => ∃ (y108 : Bool) (W109 : CW), W109.w = w ∧ Le [] W103 W109 ∧ l = [vB y108] ∧ K110 y108 = some r) ?_ ?_
          ·rintro _ _ σ ⟨y108, W109, rfl, l109, rfl, hm⟩
           rw [hK110] at hm
           have a111 := a105.n l109
           cases hm
           exact Cw.ret (ret1 rfl (Res.mk a111 rfl))
          ·refine Cw.region (Lw.fa rfl (Lw.r rfl (R.ld (v := vI x0.At) rfl rfl (((b11.up l84 rfl).up l103 rfl).cell rfl)) ?_))
           obtain ⟨z113, e114, hm⟩ := ob hm
           refine Lw.t rfl (T.call rfl (p83 (K := [0])   e114)) ?_
           rintro _ _ ⟨W115, rfl, l115, rfl⟩
           refine Lw.m (vB z113) rfl (bsplit z113 (fun hc118 => ?_) (fun hc118 => ?_))
           ·replace hm := bt hm hc118
            refine Lw.want' hc118 rfl rfl rfl rfl (Lw.m (vB (x0.Path == ([] : Str))) rfl (Lw.p hc118 (vB (x0.Path == ([] : Str))) rfl (Lw.m (vB (x0.Path == ([] : Str))) rfl (bsplit (x0.Path == ([] : Str)) (fun hc119 => ?_) (fun hc119 => ?_)))))
            ·replace hm := bt hm hc119
             refine Lw.want' hc119 rfl rfl rfl rfl (Lw.m (vB (x0.To == ([] : Str))) rfl (Lw.p hc119 (vB (x0.To == ([] : Str))) rfl (Lw.m (vB (x0.To == ([] : Str))) rfl (bsplit (x0.To == ([] : Str)) (fun hc120 => ?_) (fun hc120 => ?_)))))
             ·replace hm := bt hm hc120
              refine Lw.want' hc120 rfl rfl rfl rfl (Lw.m (vB (((x0.Text.length : Int) : Int) == (0 : Int))) rfl (Lw.p hc120 (vB (((x0.Text.length : Int) : Int) == (0 : Int))) rfl (Lw.g (vB (((x0.Text.length : Int) : Int) == (0 : Int))) rfl (Lw.nil (⟨?_, ⟨(((x0.Text.length : Int) : Int) == (0 : Int)), W115, rfl, l115, rfl, hm⟩⟩)))))
              iterate 13 (refine Agree.up rfl ?_)
              exact Agree.refl _
             ·replace hm := bf hm hc120
              refine Lw.pass' hc120 rfl rfl rfl rfl rfl rfl rfl (Lw.p hc120 (vB false) rfl (Lw.g (vB false) rfl (Lw.nil (⟨?_, ⟨false, W115, rfl, l115, rfl, hm⟩⟩))))
              iterate 13 (refine Agree.up rfl ?_)
              exact Agree.refl _
            ·replace hm := bf hm hc119
             refine Lw.pass' hc119 rfl rfl rfl rfl rfl rfl rfl (Lw.p hc119 (vB false) rfl (Lw.m (vB false) rfl (Lw.pass' rfl rfl rfl rfl rfl rfl rfl rfl (Lw.p rfl (vB false) rfl (Lw.g (vB false) rfl (Lw.nil (⟨?_, ⟨false, W115, rfl, l115, rfl, hm⟩⟩)))))))
             iterate 13 (refine Agree.up rfl ?_)
             exact Agree.refl _
           ·replace hm := bf hm hc118
            refine Lw.pass' hc118 rfl rfl rfl rfl rfl rfl rfl (Lw.p hc118 (vB false) rfl (Lw.m (vB false) rfl (Lw.pass' rfl rfl rfl rfl rfl rfl rfl rfl (Lw.p rfl (vB false) rfl (Lw.m (vB false) rfl (Lw.pass' rfl rfl rfl rfl rfl rfl rfl rfl (Lw.p rfl (vB false) rfl (Lw.g (vB false) rfl (Lw.nil (⟨?_, ⟨false, W115, rfl, l115, rfl, hm⟩⟩))))))))))
            iterate 13 (refine Agree.up rfl ?_)
            exact Agree.refl _
         ·replace hm := bf hm hc107
          refine Cw.skip (Cw.seq (Cw.region (Lw.g (vB false) rfl (Lw.nil ?_))))
          cases hm
          exact Cw.ret (ret1 rfl (Res.mk a105 rfl))
        ·refine Cw.seq (Cw.region (Lw.eq rfl (Lw.g (vB ((x0.Kind : Int) == (6 : Int))) rfl (Lw.nil (Cw.cond (b := ((x0.Kind : Int) == (6 : Int))) rfl (fun hc121 => ?_) (fun hc121 => ?_))))))
         ·replace hm := bt hm hc121
          refine Cw.skip (⟨?_, ⟨((x0.Kind : Int) == (6 : Int)), W84, rfl, Le.refl _ _, rfl, hm⟩⟩)
          iterate 2 (refine Agree.up rfl ?_)
          exact Agree.refl _
         ·replace hm := bf hm hc121
          refine Cw.region (Lw.eq rfl (Lw.g (vB ((x0.Kind : Int) == (7 : Int))) rfl (Lw.nil (⟨?_, ⟨((x0.Kind : Int) == (7 : Int)), W84, rfl, Le.refl _ _, rfl, hm⟩⟩))))
          iterate 4 (refine Agree.up rfl ?_)
          exact Agree.refl _
      ·refine Cw.seq (Cw.region (Lw.eq rfl (Lw.g (vB ((x0.Kind : Int) == (4 : Int))) rfl (Lw.nil (Cw.cond (b := ((x0.Kind : Int) == (4 : Int))) rfl (fun hc122 => ?_) (fun hc122 => ?_))))))
       ·replace hm := bt hm hc122
        refine Cw.skip (⟨?_, ⟨((x0.Kind : Int) == (4 : Int)), W9, rfl, Le.refl _ _, rfl, hm⟩⟩)
        iterate 2 (refine Agree.up rfl ?_)
        exact Agree.refl _
       ·replace hm := bf hm hc122
        refine Cw.region (Lw.eq rfl (Lw.g (vB ((x0.Kind : Int) == (5 : Int))) rfl (Lw.nil (⟨?_, ⟨((x0.Kind : Int) == (5 : Int)), W9, rfl, Le.refl _ _, rfl, hm⟩⟩))))
        iterate 4 (refine Agree.up rfl ?_)
        exact Agree.refl _
 ·refine Cw.region (Lw.fa rfl (Lw.r rfl (R.ld (v := vS x0.Branch) rfl rfl (b1.cell rfl)) ?_))
  obtain ⟨z123, e124, hm⟩ := ob hm
  refine Lw.t rfl (T.call rfl (p81 (K := [0])   e124)) ?_
  rintro _ _ ⟨W125, rfl, l125, rfl⟩
  refine Lw.r rfl (R.not rfl) (Lw.m (vB (!z123)) rfl (bsplit (!z123) (fun hc128 => ?_) (fun hc128 => ?_)))
  ·replace hm := bt hm hc128
   refine Lw.pass' hc128 rfl rfl rfl rfl rfl rfl rfl (Lw.pass' hc128 rfl rfl rfl rfl rfl rfl rfl (Lw.pass' hc128 rfl rfl rfl rfl rfl rfl rfl (Lw.pass' hc128 rfl rfl rfl rfl rfl rfl rfl (Lw.p hc128 (vB true) rfl (Lw.nil (⟨?_, ⟨true, W125, rfl, l125, rfl, hm⟩⟩))))))
   iterate 10 (refine Agree.up rfl ?_)
   exact Agree.refl _
  ·replace hm := bf hm hc128
   refine Lw.want' hc128 rfl rfl rfl rfl (Lw.fa rfl (Lw.want' hc128 rfl rfl rfl rfl (Lw.r rfl (R.ld (v := vS x0.Who) rfl rfl ((b1.up l125 rfl).cell rfl)) (Lw.want' hc128 rfl rfl rfl rfl ?_))))
   obtain ⟨z129, e130, hm⟩ := ob hm
   refine Lw.t rfl (T.call rfl (p81 (K := [0])   e130)) ?_
   rintro _ _ ⟨W131, rfl, l131, rfl⟩
   refine Lw.want' hc128 rfl rfl rfl rfl (Lw.r rfl (R.not rfl) (Lw.p hc128 (vB (!z129)) rfl (Lw.nil (⟨?_, ⟨(!z129), W131, rfl, (l125.trans l131), rfl, hm⟩⟩))))
   iterate 10 (refine Agree.up rfl ?_)
   exact Agree.refl _

theorem p51 {W : CW} {K : List Nat} {x0 : Vm.Op} {v0_6_ : Value} {r : Bool} (h0 : Rd W K [vI x0.Kind, vS x0.Branch, vS x0.Who, vS x0.Path, vS x0.To, vI x0.At, v0_6_] x0) (h99 : Gl 2 W K) (hm : Vm.impl_OpOk x0 = some r) : CallR Tryd.prog 51 [.agg [vI x0.Kind, vS x0.Branch, vS x0.Who, vS x0.Path, vS x0.To, vI x0.At, v0_6_].toArray].toArray W.w (Res W [] fun W' v => v = vB r) :=
 (c51 (V := W.view K []) (h0.view _) (h99.view _) hm).ad (fk 0) fun _ _ e => e

theorem c98 {V : CW}  {r : (List Str)}  (hm : Vm.impl_opWords = some r) : CallR Tryd.prog 98 [].toArray V.w (Res V LL fun Wf v => ∃ (u0 : Value), v = u0 ∧ OwS Wf LL [] [u0] r) := by
 unfold Vm.impl_opWords at hm
 obtain ⟨W0, hW0⟩ : ∃ W, W = V := ⟨V, rfl⟩
 subst hW0
 refine CallR.of Tryd.func98 rfl rfl rfl rfl (Cw.seq (Cw.region (Lw.g (.slice none 0 0) rfl (Lw.nil (Cw.seq (Cw.region (Lw.t rfl (T.bsS (α := Str) (xs := [([] : Str), ([115, 101, 116] : Str), ([100, 114, 111, 112] : Str), ([109, 111, 118, 101] : Str), ([102, 111, 114, 107] : Str), ([117, 110, 105, 116, 101] : Str), ([112, 105, 99, 107] : Str), ([98, 97, 99, 107] : Str)]) 2 [] (W := W0) [vS ([] : Str), vS ([115, 101, 116] : Str), vS ([100, 114, 111, 112] : Str), vS ([109, 111, 118, 101] : Str), vS ([102, 111, 114, 107] : Str), vS ([117, 110, 105, 116, 101] : Str), vS ([112, 105, 99, 107] : Str), vS ([98, 97, 99, 107] : Str)] (Each.cons ((rdS _)) (Each.cons ((rdS _)) (Each.cons ((rdS _)) (Each.cons ((rdS _)) (Each.cons ((rdS _)) (Each.cons ((rdS _)) (Each.cons ((rdS _)) (Each.cons ((rdS _)) Each.nil)))))))) rfl) ?_)))))))
 rintro v1 _ ⟨W1, rfl, l1, o1⟩
 have a2 := l1.o
 refine Lw.g v1 rfl (Lw.nil ?_)
 cases hm
 exact Cw.ret (ret1 rfl (Res.mk a2 ⟨v1, rfl, o1.s.sub rfl rfl⟩))

theorem p98 {W : CW} {K : List Nat}  {k0 : Nat} {r : (List Str)}  (hm : Vm.impl_opWords = some r) : CallR Tryd.prog 98 [].toArray W.w (Res W [] fun W' v => ∃ (u0 : Value), v = u0 ∧ Ow W' k0 [] [u0] r) :=
 (c98 (V := W.view K [])  hm).ad (fk k0) fun _ _ ⟨u0, e, f0⟩ => ⟨u0, e, f0.back (fk_LL _)⟩

theorem c111 {V : CW} {x0 : List Str} {v0_ : Value} {r : Str} (h0 : Rd V [0] [v0_] x0) (hm : Vm.impl_joinLines x0 = some r) : CallR Tryd.prog 111 [v0_].toArray V.w (Res V LL fun Wf v => v = vS r) := by
 unfold Vm.impl_joinLines at hm
 obtain ⟨W0, hW0⟩ : ∃ W, W = V := ⟨V, rfl⟩
 subst hW0
 refine CallR.of Tryd.func111 rfl rfl rfl rfl (Cw.seq (Cw.region (Lw.g (vS ([] : Str)) rfl (Lw.nil (Cw.seq (Cw.region (Lw.g (vS ([] : Str)) rfl (Lw.nil (Cw.seq (Cw.seq (Cw.region (Lw.m v0_ rfl (Lw.ln x0 h0 rfl (Lw.m (vI 0) rfl (Lw.nil (Cw.block ?_))))))))))))))))
 obtain ⟨K5, hK5, hm⟩ := jn_e hm
 refine Cw.loop 8 16 [3, 5, 8] (fun m l w => ∃ (y1 : Str) (y3 : Int) (j2 : Value) (W4 : CW), W4.w = w ∧ Le [] W0 W4 ∧ l = [vS y1, j2, vI y3] ∧ Vm.impl_joinLines_l1 x0 K5 m y1 y3 = some r) (((x0.length : Int) - 0).toNat + 1) ⟨([] : Str), 0, undef, W0, rfl, Le.refl _ _, rfl, hm⟩ ?_
 rintro m6 _ _ σ ⟨y1, y3, j2, W4, rfl, l4, rfl, hm⟩
 obtain _ | m6 := m6
 ·cases hm
 unfold Vm.impl_joinLines_l1 at hm
 have a7 := l4.o
 refine Cw.seq (Cw.region (Lw.lt rfl (Lw.nil (Cw.seq (Cw.cond (b := decide ((y3 : Int) < ((x0.length : Int) : Int))) rfl (fun hc8 => ?_) (fun hc8 => ?_))))))
 ·replace hm := bt hm hc8
  refine Cw.skip (Cw.seq (Cw.block (Cw.seq (Cw.region ?_))))
  obtain ⟨u9, e10, hm⟩ := ob hm
  refine Lw.r rfl (R.ix (α := Str) (h0.ul a7) e10 rfl rfl rfl) (Lw.r rfl (R.ld rfl rfl ((h0.ul a7).at_ e10).str) (Lw.g (vS u9) rfl (Lw.nil (Cw.region (Lw.m (vS y1) rfl (Lw.m (vS u9) rfl ?_))))))
  obtain ⟨q12, e13, hm⟩ := ob hm
  refine Lw.r rfl (R.sad e13 rfl rfl) ?_
  obtain ⟨q14, e15, hm⟩ := ob hm
  refine Lw.r rfl (R.sad e15 rfl rfl) (Lw.g (vS q14) rfl (Lw.nil (Cw.region (Lw.add rfl (Lw.m (vI (w64 (y3 + 1))) rfl (Lw.nil (⟨?_, m6, Nat.lt_succ_self m6, ⟨q14, w64 (y3 + 1), vS u9, W4, rfl, l4, rfl, hm⟩⟩)))))))
  iterate 11 (refine Agree.up rfl ?_)
  iterate 3 (refine Agree.up rfl ?_)
  exact Agree.base
 ·replace hm := bf hm hc8
  refine Cw.exit ?_
  rw [hK5] at hm
  refine Cw.seq (Cw.region (Lw.m (vS y1) rfl (Lw.g (vS y1) rfl (Lw.nil ?_))))
  cases hm
  exact Cw.ret (ret1 rfl (Res.mk a7 rfl))

theorem p111 {W : CW} {K : List Nat} {x0 : List Str} {v0_ : Value} {r : Str} (h0 : Rd W K [v0_] x0) (hm : Vm.impl_joinLines x0 = some r) : CallR Tryd.prog 111 [v0_].toArray W.w (Res W [] fun W' v => v = vS r) :=
 (c111 (V := W.view K []) (h0.view _) hm).ad (fk 0) fun _ _ e => e

end Go.Sx
