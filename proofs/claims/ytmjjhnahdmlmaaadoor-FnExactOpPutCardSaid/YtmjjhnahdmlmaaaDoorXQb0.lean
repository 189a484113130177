/- Plain laws of lines and texts: both sides answer alike. Conditions: each law's own premises. -/
import Derived.Test.YtmjjhnahdmlmaaaDoorXMd
import Derived.Test.YtmjjhnahdmlmaaaDoorXBk
import Derived.Test.YtmjjhnahdmlmaaaDoorXPl
namespace Go.Vm
open Go Go.Sx
set_option linter.unusedSimpArgs false
set_option linter.unusedVariables false

def chB (c : UInt8) : Bool := !(decide ((c.toNat : Int) < 32) || decide (126 < (c.toNat : Int)))
def lineB (s : Str) : Bool := !decide (12 < (s.length : Int)) && s.all chB
def textB (xs : List Str) : Bool := !decide (10 < (xs.length : Int)) && xs.all lineB
theorem ble_not (a b : Int) : decide (a ≤ b) = !decide (b < a) := by
  by_cases h : a ≤ b
  · rw [decide_eq_true h, decide_eq_false (by omega)]; rfl
  · rw [decide_eq_false h, decide_eq_true (by omega)]; rfl

theorem lineOk_eq {s : Str} (h : s.length ≤ maxi) : impl_lineOk s = some (lineB s) := by
  unfold impl_lineOk lineB
  simp only [jn, fuel0]
  cases decide ((12 : Int) < (s.length : Int))
  case true => rfl
  rw [cond_false, loop_list (α := UInt8) (xs := s) (p := chB) (r0 := some false) (Z := some true) (f := fun m i => impl_lineOk_l1 s (fun _ _ => some true) m false i) (fun m i x hx => by
    simp only [impl_lineOk_l1, jn, lt_of hx, chM_of hx, cond_true, Option.bind_some, w64_ix (ix_of hx) h, chB]
    cases decide ((x.toNat : Int) < 32) <;> cases decide (126 < (x.toNat : Int)) <;> rfl) (fun m => by simp only [impl_lineOk_l1, end_of, cond_false]) (by omega)]
  cases s.all chB <;> rfl
theorem l1Line_eq {s : Str} (h : s.length ≤ maxi) : spec_l1Line s = some (lineB s) := by
  unfold spec_l1Line lineB
  simp only [jn, fuel0, ble_not]
  rw [loop_list (α := UInt8) (xs := s) (p := chB) (r0 := some false) (Z := some (!decide (12 < (s.length : Int)))) (f := fun m i => spec_l1Line_l1 s (fun _ _ => some (!decide (12 < (s.length : Int)))) m false i) (fun m i x hx => by
    simp only [spec_l1Line_l1, jn, lt_of hx, chM_of hx, cond_true, Option.bind_some, w64_ix (ix_of hx) h, chB]
    cases decide ((x.toNat : Int) < 32) <;> cases decide (126 < (x.toNat : Int)) <;> rfl) (fun m => by simp only [spec_l1Line_l1, end_of, cond_false]) (by omega)]
  cases s.all chB <;> cases decide (12 < (s.length : Int)) <;> rfl
theorem TextOk_eq {xs : List Str} (h : Bk.fit xs) : impl_TextOk xs = some (textB xs) := by
  have hl := fit_len h
  unfold impl_TextOk textB
  simp only [jn, fuel0]
  cases decide ((10 : Int) < (xs.length : Int))
  case true => rfl
  rw [cond_false, loop_list (α := Str) (xs := xs) (p := lineB) (r0 := some false) (Z := some true) (f := fun m i => impl_TextOk_l1 xs (fun _ _ => some true) m false i) (fun m i x hx => by
    have hx2 : x.length ≤ maxi := fit_at h hx
    simp only [impl_TextOk_l1, lt_of hx, gi_of hx, cond_true, Option.bind_some, w64_ix (ix_of hx) hl, lineOk_eq hx2]
    cases lineB x <;> rfl) (fun m => by simp only [impl_TextOk_l1, end_of, cond_false]) (by omega)]
  cases xs.all lineB <;> rfl
theorem l1Ok_eq {xs : List Str} (h : Bk.fit xs) : spec_l1Ok xs = some (textB xs) := by
  have hl := fit_len h
  unfold spec_l1Ok textB
  simp only [jn, fuel0, ble_not]
  rw [loop_list (α := Str) (xs := xs) (p := lineB) (r0 := some false) (Z := some (!decide (10 < (xs.length : Int)))) (f := fun m i => spec_l1Ok_l1 xs (fun _ _ => some (!decide (10 < (xs.length : Int)))) m false i) (fun m i x hx => by
    have hx2 : x.length ≤ maxi := fit_at h hx
    simp only [spec_l1Ok_l1, lt_of hx, gi_of hx, cond_true, Option.bind_some, w64_ix (ix_of hx) hl, l1Line_eq hx2]
    cases lineB x <;> rfl) (fun m => by simp only [spec_l1Ok_l1, end_of, cond_false]) (by omega)]
  cases xs.all lineB <;> cases decide (10 < (xs.length : Int)) <;> rfl
theorem textB_len {t : List Str} (h : textB t = true) : t.length ≤ 10 := by
  unfold textB at h
  simp only [Bool.and_eq_true, Bool.not_eq_true', decide_eq_false_iff_not] at h
  omega
theorem textB_line {t : List Str} (h : textB t = true) : ∀ s ∈ t, lineB s = true := by
  unfold textB at h
  simp only [Bool.and_eq_true, List.all_eq_true] at h
  exact h.2
theorem lineB_len {s : Str} (h : lineB s = true) : s.length ≤ 12 := by
  unfold lineB at h
  simp only [Bool.and_eq_true, Bool.not_eq_true', decide_eq_false_iff_not] at h
  omega
end Go.Vm
