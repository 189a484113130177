/- Plain laws of the checks of lines, texts and memos: both sides answer alike. Conditions: each law's own premises. -/
import Derived.Test.YtjdljoplpcakpaaXQa
namespace Go.Vm
open Go Go.Sx
set_option linter.unusedSimpArgs false
set_option linter.unusedVariables false

def chB (c : UInt8) : Bool := !(decide ((c.toNat : Int) < 32) || decide (126 < (c.toNat : Int)))
def lineB (s : Str) : Bool := !decide (12 < (s.length : Int)) && s.all chB
def textB (xs : List Str) : Bool := !decide (10 < (xs.length : Int)) && xs.all lineB
def sameB (m : Memo) (a b c : List Str) : Bool := m.Old == a && (m.One == b && m.Two == c || m.One == c && m.Two == b)
def okB (before : List Memo) (m : Memo) : Bool := textB m.Old && (textB m.One && (textB m.Two && (textB m.Done && (!(m.One == m.Two) && before.all fun q => !sameB q m.Old m.One m.Two))))
def memosB (xs : List Memo) : Bool := !decide (5 < (xs.length : Int)) && allN (fun i => match xs[i]? with | some m => okB (xs.take i) m | none => true) 0 xs.length

theorem ble_not (a b : Int) : decide (a ≤ b) = !decide (b < a) := by
  by_cases h : a ≤ b
  · rw [decide_eq_true h, decide_eq_false (by omega)]; rfl
  · rw [decide_eq_false h, decide_eq_true (by omega)]; rfl

theorem lineOk_eq {s : Str} (h : s.length ≤ maxi) : impl_lineOk s = some (lineB s) := by
  unfold impl_lineOk lineB
  simp only [jn, fuel0]
  cases decide ((12 : Int) < (s.length : Int))
  case true => rfl
  rw [cond_false, loop_list (α := UInt8) (xs := s) (p := chB) (r0 := some false) (Z := some true) (f := fun m i => impl_lineOk_l1 s (fun _ _ => some true) m false i) (fun m i x hx => by
    simp only [impl_lineOk_l1, jn, lt_of hx, chM_of hx, cond_true, Option.bind_some, w64_ix (ix_of hx) h, chB]
    cases decide ((x.toNat : Int) < 32) <;> cases decide (126 < (x.toNat : Int)) <;> rfl) (fun m => by simp only [impl_lineOk_l1, end_of, cond_false]) (by omega)]
  cases s.all chB <;> rfl
theorem l1Line_eq {s : Str} (h : s.length ≤ maxi) : spec_l1Line s = some (lineB s) := by
  unfold spec_l1Line lineB
  simp only [jn, fuel0, ble_not]
  rw [loop_list (α := UInt8) (xs := s) (p := chB) (r0 := some false) (Z := some (!decide (12 < (s.length : Int)))) (f := fun m i => spec_l1Line_l1 s (fun _ _ => some (!decide (12 < (s.length : Int)))) m false i) (fun m i x hx => by
    simp only [spec_l1Line_l1, jn, lt_of hx, chM_of hx, cond_true, Option.bind_some, w64_ix (ix_of hx) h, chB]
    cases decide ((x.toNat : Int) < 32) <;> cases decide (126 < (x.toNat : Int)) <;> rfl) (fun m => by simp only [spec_l1Line_l1, end_of, cond_false]) (by omega)]
  cases s.all chB <;> cases decide (12 < (s.length : Int)) <;> rfl
theorem TextOk_eq {xs : List Str} (h : Bk.fit xs) : impl_TextOk xs = some (textB xs) := by
  have hl := fit_len h
  unfold impl_TextOk textB
  simp only [jn, fuel0]
  cases decide ((10 : Int) < (xs.length : Int))
  case true => rfl
  rw [cond_false, loop_list (α := Str) (xs := xs) (p := lineB) (r0 := some false) (Z := some true) (f := fun m i => impl_TextOk_l1 xs (fun _ _ => some true) m false i) (fun m i x hx => by
    have hx2 : x.length ≤ maxi := fit_at h hx
    simp only [impl_TextOk_l1, lt_of hx, gi_of hx, cond_true, Option.bind_some, w64_ix (ix_of hx) hl, lineOk_eq hx2]
    cases lineB x <;> rfl) (fun m => by simp only [impl_TextOk_l1, end_of, cond_false]) (by omega)]
  cases xs.all lineB <;> rfl
theorem l1Ok_eq {xs : List Str} (h : Bk.fit xs) : spec_l1Ok xs = some (textB xs) := by
  have hl := fit_len h
  unfold spec_l1Ok textB
  simp only [jn, fuel0, ble_not]
  rw [loop_list (α := Str) (xs := xs) (p := lineB) (r0 := some false) (Z := some (!decide (10 < (xs.length : Int)))) (f := fun m i => spec_l1Ok_l1 xs (fun _ _ => some (!decide (10 < (xs.length : Int)))) m false i) (fun m i x hx => by
    have hx2 : x.length ≤ maxi := fit_at h hx
    simp only [spec_l1Ok_l1, lt_of hx, gi_of hx, cond_true, Option.bind_some, w64_ix (ix_of hx) hl, l1Line_eq hx2]
    cases lineB x <;> rfl) (fun m => by simp only [spec_l1Ok_l1, end_of, cond_false]) (by omega)]
  cases xs.all lineB <;> cases decide (10 < (xs.length : Int)) <;> rfl
theorem areTexts_eq {a b c : List Str} (ha : Bk.fit a) (hb : Bk.fit b) (hc : Bk.fit c) : impl_areTexts a b c = some (textB a && (textB b && textB c)) := by
  unfold impl_areTexts
  simp only [jn, TextOk_eq ha, TextOk_eq hb, TextOk_eq hc, Option.bind_some]
  cases textB a <;> cases textB b <;> rfl
theorem sEqual_eq {xs ys : List Str} (h : xs.length ≤ maxi) : slices_Equal_string_string xs ys = some (xs == ys) := by
  unfold slices_Equal_string_string
  simp only [bne_len, jn, fuel0]
  by_cases hn : xs.length = ys.length
  · rw [hn, beq_self_eq_true, Bool.not_true, cond_false, ← hn]
    rw [loop_eq (α := Str) (r0 := some false) (Z := some true) (f := fun m i => slices_Equal_string_string_l1 xs ys (fun _ _ => some true) m false i) hn (fun m i x y hx hy => by
      simp only [slices_Equal_string_string_l1, lt_of hx, gi_of hx, gi_of hy, cond_true, Option.bind_some, w64_ix (ix_of hx) h, bne]
      cases x == y <;> rfl) (fun m => by simp only [slices_Equal_string_string_l1, end_of, cond_false]) (by omega)]
    cases xs == ys <;> rfl
  · rw [beq_false_of_ne hn, Bool.not_false, cond_true, beq_false_of_ne (fun e => hn (by rw [e]))]
theorem l1Same_eq {xs ys : List Str} (h : xs.length ≤ maxi) : spec_l1Same xs ys = some (xs == ys) := by
  unfold spec_l1Same
  simp only [bne_len, jn, fuel0]
  by_cases hn : xs.length = ys.length
  · rw [hn, beq_self_eq_true, Bool.not_true, cond_false, ← hn]
    rw [loop_eq (α := Str) (r0 := some false) (Z := some true) (f := fun m i => spec_l1Same_l1 xs ys (fun _ _ => some true) m false i) hn (fun m i x y hx hy => by
      simp only [spec_l1Same_l1, lt_of hx, gi_of hx, gi_of hy, cond_true, Option.bind_some, w64_ix (ix_of hx) h, bne]
      cases x == y <;> rfl) (fun m => by simp only [spec_l1Same_l1, end_of, cond_false]) (by omega)]
    cases xs == ys <;> rfl
  · rw [beq_false_of_ne hn, Bool.not_false, cond_true, beq_false_of_ne (fun e => hn (by rw [e]))]
theorem copyText_eq {x : List Str} (h : x.length ≤ 1048576) : impl_copyText x = some x := by
  unfold impl_copyText
  rw [apN h]; rfl
theorem Memo_is_eq {m : Memo} {a b c : List Str} (h : Bk.fit m) : impl_Memo_is m a b c = some (sameB m a b c) := by
  obtain ⟨f1, f2, f3, f4⟩ := h
  unfold impl_Memo_is sameB
  simp only [jn, sEqual_eq (fit_len f1), sEqual_eq (fit_len f2), sEqual_eq (fit_len f3), Option.bind_some]
  cases m.Old == a <;> cases m.One == b <;> cases m.Two == c <;> cases m.One == c <;> cases m.Two == b <;> rfl
theorem l18Same_eq {m : Memo} {a b c : List Str} (h : Bk.fit m) : spec_l18Same m a b c = some (sameB m a b c) := by
  obtain ⟨f1, f2, f3, f4⟩ := h
  unfold spec_l18Same sameB
  simp only [jn, l1Same_eq (fit_len f1), l1Same_eq (fit_len f2), l1Same_eq (fit_len f3), Option.bind_some]
  cases m.Old == a <;> cases m.One == b <;> cases m.Two == c <;> cases m.One == c <;> cases m.Two == b <;> rfl
theorem take_at {α : Type} {xs : List α} {i j : Nat} {x : α} (h : (xs.take i)[j]? = some x) : xs[j]? = some x ∧ j < i := by
  rw [List.getElem?_take] at h
  split at h
  · exact ⟨h, by assumption⟩
  · cases h
theorem take_len {α : Type} {xs : List α} {i : Nat} (h : i ≤ xs.length) : (xs.take i).length = i := by simp; omega
theorem MemosOk_eq {xs : List Memo} (h : Bk.fit xs) : impl_MemosOk xs = some (memosB xs) := by
  have hl := fit_len h
  unfold impl_MemosOk memosB
  simp only [jn, fuel0]
  cases decide ((5 : Int) < (xs.length : Int))
  case true => rfl
  rw [cond_false, loop_all (n := xs.length) (g := fun i => match xs[i]? with | some m => okB (xs.take i) m | none => true) (r0 := some false) (Z := some true) (f := fun m i => impl_MemosOk_l1 xs (fun _ _ => some true) m false i) (fun m i hi => by
    have hx : xs[i]? = some xs[i] := List.getElem?_eq_getElem hi
    obtain ⟨f1, f2, f3, f4⟩ := fit_at h hx
    have hn : (xs.take i).length = i := take_len (by omega)
    simp only [impl_MemosOk_l1, jn, lt_of hx, gi_of hx, cond_true, Option.bind_some, slM_take (Nat.le_of_lt hi), fuel0, areTexts_eq f1 f2 f3, TextOk_eq f4, sEqual_eq (fit_len f2), hx, okB]
    rw [loop_list (α := Memo) (xs := xs.take i) (p := fun q => !sameB q xs[i].Old xs[i].One xs[i].Two) (r0 := some false) (Z := impl_MemosOk_l1 xs (fun _ _ => some true) m false ((i + 1 : Nat) : Int)) (f := fun m' j => impl_MemosOk_l2 xs[i] (xs.take i) (fun y41 _ => impl_MemosOk_l1 xs (fun _ _ => some true) m y41 (w64 ((i : Int) + 1))) m' false j) (fun m' j x hj => by
      have hj2 := take_at hj
      simp only [impl_MemosOk_l2, lt_of hj, gi_of hj, cond_true, Option.bind_some, Memo_is_eq (fit_at h hj2.1), w64_ix hj2.2 (Nat.le_trans (Nat.le_of_lt hi) hl)]
      cases sameB x xs[i].Old xs[i].One xs[i].Two <;> rfl) (fun m' => by simp only [impl_MemosOk_l2, end_of, cond_false, w64_ix hi hl]) (by omega)]
    cases textB xs[i].Old <;> cases textB xs[i].One <;> cases textB xs[i].Two <;> cases textB xs[i].Done <;> cases xs[i].One == xs[i].Two <;> cases (xs.take i).all (fun q => !sameB q xs[i].Old xs[i].One xs[i].Two) <;> rfl) (fun m => by simp only [impl_MemosOk_l1, end_of, cond_false]) _ (by omega)]
  simp only [Bool.not_false, Bool.true_and]
  cases allN _ 0 xs.length <;> rfl
theorem l18Ok_eq {xs : List Memo} (h : Bk.fit xs) : spec_l18Ok xs = some (memosB xs) := by
  have hl := fit_len h
  unfold spec_l18Ok memosB
  simp only [jn, fuel0, ble_not]
  rw [loop_all (n := xs.length) (g := fun i => match xs[i]? with | some m => okB (xs.take i) m | none => true) (r0 := some false) (Z := some (!decide ((5 : Int) < (xs.length : Int)))) (f := fun m i => spec_l18Ok_l1 xs (fun _ _ => some (!decide ((5 : Int) < (xs.length : Int)))) m false i) (fun m i hi => by
    have hx : xs[i]? = some xs[i] := List.getElem?_eq_getElem hi
    obtain ⟨f1, f2, f3, f4⟩ := fit_at h hx
    simp only [spec_l18Ok_l1, jn, lt_of hx, gi_of hx, cond_true, Option.bind_some, fuel0, l1Ok_eq f1, l1Ok_eq f2, l1Ok_eq f3, l1Ok_eq f4, l1Same_eq (fit_len f2), hx, okB]
    rw [loop_list (α := Memo) (xs := xs.take i) (p := fun q => !sameB q xs[i].Old xs[i].One xs[i].Two) (r0 := some false) (Z := spec_l18Ok_l1 xs (fun _ _ => some (!decide ((5 : Int) < (xs.length : Int)))) m false ((i + 1 : Nat) : Int)) (f := fun m' j => spec_l18Ok_l2 xs (i : Int) xs[i] (fun y41 _ => spec_l18Ok_l1 xs (fun _ _ => some (!decide ((5 : Int) < (xs.length : Int)))) m y41 (w64 ((i : Int) + 1))) m' false j) (fun m' j x hj => by
      have hj2 := take_at hj
      have hlt : decide ((j : Int) < (i : Int)) = true := by have := hj2.2; simpa using this
      simp only [spec_l18Ok_l2, hlt, gi_of hj2.1, cond_true, Option.bind_some, l18Same_eq (fit_at h hj2.1), w64_ix hj2.2 (Nat.le_trans (Nat.le_of_lt hi) hl)]
      cases sameB x xs[i].Old xs[i].One xs[i].Two <;> rfl) (fun m' => by
      rw [take_len (Nat.le_of_lt hi)]
      simp only [spec_l18Ok_l2, end_of, cond_false, w64_ix hi hl]) (by rw [take_len (Nat.le_of_lt hi)]; omega)]
    cases textB xs[i].Old <;> cases textB xs[i].One <;> cases textB xs[i].Two <;> cases textB xs[i].Done <;> cases xs[i].One == xs[i].Two <;> cases (xs.take i).all (fun q => !sameB q xs[i].Old xs[i].One xs[i].Two) <;> rfl) (fun m => by simp only [spec_l18Ok_l1, end_of, cond_false]) _ (by omega)]
  cases decide ((5 : Int) < (xs.length : Int)) <;> cases allN _ 0 xs.length <;> rfl
theorem sMemosOk_eq {xs : List Memo} (h : Bk.fit xs) : spec_MemosOk xs = some (memosB xs) := by
  unfold spec_MemosOk
  rw [l18Ok_eq h]; rfl
theorem FnExactMemosOk_eq {xs : List Memo} (h : Bk.fit xs) : laws_FnExactMemosOk xs = some true := by
  unfold laws_FnExactMemosOk
  rw [szMemoS_eq h (by omega) (by omega), Option.bind_some]
  by_cases hb : (Bk.bulk xs : Int) ≤ 1048576
  case neg => rw [if_neg hb]; rfl
  rw [if_pos hb, decide_eq_false (by omega), cond_false]
  simp only [toMemoS_eq (show Bk.bulk xs ≤ 1048576 by omega), Option.bind_some, sMemosOk_eq h, MemosOk_eq h, eqMemoS_eq h, beq_self_eq_true, bne_self_eq_false, cond_false, Bool.not_true]
end Go.Vm
