/- Plain law FnExactPickBack, and what it uses: what the models answer. Conditions: each law's own premises. -/
import Derived.Test.YtbimgeocngkboaaGreatDoorBM0
import Derived.Test.YtbimgeocngkboaaGreatDoorBM1
import Derived.Test.YtbimgeocngkboaaGreatDoorBLw
import Derived.Sort.Walk0
import Derived.Lib.SplitLaws
import Derived.Test.YtbimgeocngkboaaGreatDoorBX
import Derived.Lib.Join
namespace Go.Vm
open Go Go.Sx
set_option linter.unusedSimpArgs false
set_option linter.unusedVariables false
def chB (c : UInt8) : Bool := !(decide ((c.toNat : Int) < 32) || decide (126 < (c.toNat : Int)))
def lineB (s : Str) : Bool := !decide (12 < (s.length : Int)) && s.all chB
def textB (xs : List Str) : Bool := !decide (10 < (xs.length : Int)) && xs.all lineB
theorem ble_not (a b : Int) : decide (a ≤ b) = !decide (b < a) := by
  by_cases h : a ≤ b
  · rw [decide_eq_true h, decide_eq_false (by omega)]; rfl
  · rw [decide_eq_false h, decide_eq_true (by omega)]; rfl
theorem lineOk_eq {s : Str} (h : s.length ≤ maxi) : impl_lineOk s = some (lineB s) := by
  unfold impl_lineOk lineB
  simp only [jn, fuel0]
  cases decide ((12 : Int) < (s.length : Int))
  case true => rfl
  rw [cond_false, loop_list (α := UInt8) (xs := s) (p := chB) (r0 := some false) (Z := some true) (f := fun m i => impl_lineOk_l1 s (fun _ _ => some true) m false i) (fun m i x hx => by
    simp only [impl_lineOk_l1, jn, lt_of hx, chM_of hx, cond_true, Option.bind_some, w64_ix (ix_of hx) h, chB]
    cases decide ((x.toNat : Int) < 32) <;> cases decide (126 < (x.toNat : Int)) <;> rfl) (fun m => by simp only [impl_lineOk_l1, end_of, cond_false]) (by omega)]
  cases s.all chB <;> rfl
theorem l1Line_eq {s : Str} (h : s.length ≤ maxi) : spec_l1Line s = some (lineB s) := by
  unfold spec_l1Line lineB
  simp only [jn, fuel0, ble_not]
  rw [loop_list (α := UInt8) (xs := s) (p := chB) (r0 := some false) (Z := some (!decide (12 < (s.length : Int)))) (f := fun m i => spec_l1Line_l1 s (fun _ _ => some (!decide (12 < (s.length : Int)))) m false i) (fun m i x hx => by
    simp only [spec_l1Line_l1, jn, lt_of hx, chM_of hx, cond_true, Option.bind_some, w64_ix (ix_of hx) h, chB]
    cases decide ((x.toNat : Int) < 32) <;> cases decide (126 < (x.toNat : Int)) <;> rfl) (fun m => by simp only [spec_l1Line_l1, end_of, cond_false]) (by omega)]
  cases s.all chB <;> cases decide (12 < (s.length : Int)) <;> rfl
theorem TextOk_eq {xs : List Str} (h : Bk.fit xs) : impl_TextOk xs = some (textB xs) := by
  have hl := fit_len h
  unfold impl_TextOk textB
  simp only [jn, fuel0]
  cases decide ((10 : Int) < (xs.length : Int))
  case true => rfl
  rw [cond_false, loop_list (α := Str) (xs := xs) (p := lineB) (r0 := some false) (Z := some true) (f := fun m i => impl_TextOk_l1 xs (fun _ _ => some true) m false i) (fun m i x hx => by
    have hx2 : x.length ≤ maxi := fit_at h hx
    simp only [impl_TextOk_l1, lt_of hx, gi_of hx, cond_true, Option.bind_some, w64_ix (ix_of hx) hl, lineOk_eq hx2]
    cases lineB x <;> rfl) (fun m => by simp only [impl_TextOk_l1, end_of, cond_false]) (by omega)]
  cases xs.all lineB <;> rfl
theorem l1Ok_eq {xs : List Str} (h : Bk.fit xs) : spec_l1Ok xs = some (textB xs) := by
  have hl := fit_len h
  unfold spec_l1Ok textB
  simp only [jn, fuel0, ble_not]
  rw [loop_list (α := Str) (xs := xs) (p := lineB) (r0 := some false) (Z := some (!decide (10 < (xs.length : Int)))) (f := fun m i => spec_l1Ok_l1 xs (fun _ _ => some (!decide (10 < (xs.length : Int)))) m false i) (fun m i x hx => by
    have hx2 : x.length ≤ maxi := fit_at h hx
    simp only [spec_l1Ok_l1, lt_of hx, gi_of hx, cond_true, Option.bind_some, w64_ix (ix_of hx) hl, l1Line_eq hx2]
    cases lineB x <;> rfl) (fun m => by simp only [spec_l1Ok_l1, end_of, cond_false]) (by omega)]
  cases xs.all lineB <;> cases decide (10 < (xs.length : Int)) <;> rfl
theorem textB_len {t : List Str} (h : textB t = true) : t.length ≤ 10 := by
  unfold textB at h
  simp only [Bool.and_eq_true, Bool.not_eq_true', decide_eq_false_iff_not] at h
  omega
theorem textB_line {t : List Str} (h : textB t = true) : ∀ s ∈ t, lineB s = true := by
  unfold textB at h
  simp only [Bool.and_eq_true, List.all_eq_true] at h
  exact h.2
theorem lineB_len {s : Str} (h : lineB s = true) : s.length ≤ 12 := by
  unfold lineB at h
  simp only [Bool.and_eq_true, Bool.not_eq_true', decide_eq_false_iff_not] at h
  omega
end Go.Vm
namespace Go.Vm
open Go Go.Sx
set_option linter.unusedSimpArgs false
set_option linter.unusedVariables false
theorem areTexts_eq {a b c : List Str} (ha : Bk.fit a) (hb : Bk.fit b) (hc : Bk.fit c) : impl_areTexts a b c = some (textB a && (textB b && textB c)) := by
  unfold impl_areTexts
  simp only [jn, TextOk_eq ha, TextOk_eq hb, TextOk_eq hc, Option.bind_some]
  cases textB a <;> cases textB b <;> rfl
theorem sEqual_eq {xs ys : List Str} (h : xs.length ≤ maxi) : slices_Equal_string_string xs ys = some (xs == ys) := by
  unfold slices_Equal_string_string
  simp only [bne_len, jn, fuel0]
  by_cases hn : xs.length = ys.length
  · rw [hn, beq_self_eq_true, Bool.not_true, cond_false, ← hn]
    rw [loop_eq (α := Str) (r0 := some false) (Z := some true) (f := fun m i => slices_Equal_string_string_l1 xs ys (fun _ _ => some true) m false i) hn (fun m i x y hx hy => by
      simp only [slices_Equal_string_string_l1, lt_of hx, gi_of hx, gi_of hy, cond_true, Option.bind_some, w64_ix (ix_of hx) h, bne]
      cases x == y <;> rfl) (fun m => by simp only [slices_Equal_string_string_l1, end_of, cond_false]) (by omega)]
    cases xs == ys <;> rfl
  · rw [beq_false_of_ne hn, Bool.not_false, cond_true, beq_false_of_ne (fun e => hn (by rw [e]))]
theorem l1Same_eq {xs ys : List Str} (h : xs.length ≤ maxi) : spec_l1Same xs ys = some (xs == ys) := by
  unfold spec_l1Same
  simp only [bne_len, jn, fuel0]
  by_cases hn : xs.length = ys.length
  · rw [hn, beq_self_eq_true, Bool.not_true, cond_false, ← hn]
    rw [loop_eq (α := Str) (r0 := some false) (Z := some true) (f := fun m i => spec_l1Same_l1 xs ys (fun _ _ => some true) m false i) hn (fun m i x y hx hy => by
      simp only [spec_l1Same_l1, lt_of hx, gi_of hx, gi_of hy, cond_true, Option.bind_some, w64_ix (ix_of hx) h, bne]
      cases x == y <;> rfl) (fun m => by simp only [spec_l1Same_l1, end_of, cond_false]) (by omega)]
    cases xs == ys <;> rfl
  · rw [beq_false_of_ne hn, Bool.not_false, cond_true, beq_false_of_ne (fun e => hn (by rw [e]))]
theorem copyText_eq {x : List Str} (h : x.length ≤ 1048576) : impl_copyText x = some x := by
  unfold impl_copyText
  rw [apN h]; rfl
end Go.Vm
namespace Go.Vm
open Go Go.Sx
set_option linter.unusedSimpArgs false
set_option linter.unusedVariables false
def RdOk (r : l30Rd) (p : Int) : Prop := r.b.length ≤ 2000 ∧ 0 ≤ r.p ∧ r.p ≤ p
theorem RdOk.on {r : l30Rd} {p q : Int} (h : RdOk r p) (k : Int) (hk : 0 ≤ k) (hq : r.p + k ≤ q) : RdOk ⟨r.b, r.p + k⟩ q := ⟨h.1, by have := h.2.1; show 0 ≤ r.p + k; omega, hq⟩
end Go.Vm
namespace Go.Vm
open Go Go.Sx
set_option linter.unusedSimpArgs false
set_option linter.unusedVariables false
def lcsL : List Str → List Str → Int
  | [], _ => 0
  | _ :: _, [] => 0
  | x :: xs, y :: ys => if x == y then lcsL xs ys + 1 else maxI (lcsL xs (y :: ys)) (lcsL (x :: xs) ys)
termination_by a b => a.length + b.length
theorem lcsL_nil (b : List Str) : lcsL [] b = 0 := by rw [lcsL]
theorem lcsL_nilr (a : List Str) : lcsL a [] = 0 := by cases a <;> rw [lcsL]
theorem lcsL_cons (x y : Str) (xs ys : List Str) : lcsL (x :: xs) (y :: ys) = if x == y then lcsL xs ys + 1 else maxI (lcsL xs (y :: ys)) (lcsL (x :: xs) ys) := by rw [lcsL]
theorem lcsL_range : ∀ (n : Nat) (a b : List Str), a.length + b.length ≤ n → 0 ≤ lcsL a b ∧ lcsL a b ≤ a.length
  | _, [], b, _ => by rw [lcsL_nil]; simp
  | _, x :: xs, [], _ => by rw [lcsL_nilr]; simp; omega
  | 0, x :: xs, y :: ys, h => by simp at h
  | n + 1, x :: xs, y :: ys, h => by
    simp only [List.length_cons] at h
    have h1 := lcsL_range n xs ys (by omega)
    have h2 := lcsL_range n xs (y :: ys) (by simp; omega)
    have h3 := lcsL_range n (x :: xs) ys (by simp; omega)
    rw [lcsL_cons]
    simp only [List.length_cons] at *
    split
    · omega
    · unfold maxI; split <;> omega
theorem lcsL_lo (a b : List Str) : 0 ≤ lcsL a b := (lcsL_range _ a b (Nat.le_refl _)).1
theorem lcsL_hi (a b : List Str) : lcsL a b ≤ a.length := (lcsL_range _ a b (Nat.le_refl _)).2
def rowF (n : Nat) (g : Nat → Int) : List Int := (List.range n).map g
def tabF (n m : Nat) (f : Nat → Nat → Int) : List (List Int) := (List.range n).map fun i => rowF m (f i)
theorem rowF_congr {n : Nat} {g g' : Nat → Int} (h : ∀ k, k < n → g k = g' k) : rowF n g = rowF n g' := by
  unfold rowF
  exact List.map_congr_left fun k hk => h k (List.mem_range.1 hk)
theorem tabF_congr {n m : Nat} {f f' : Nat → Nat → Int} (h : ∀ i k, i < n → k < m → f i k = f' i k) : tabF n m f = tabF n m f' := by
  unfold tabF
  exact List.map_congr_left fun i hi => rowF_congr fun k hk => h i k (List.mem_range.1 hi) hk
theorem rowF_at {n k : Nat} {g : Nat → Int} (h : k < n) : gi (rowF n g) (k : Int) = some (g k) := gi_of (by simp [rowF, h])
theorem tabF_at {n m i : Nat} {f : Nat → Nat → Int} (h : i < n) : gi (tabF n m f) (i : Int) = some (rowF m (f i)) := gi_of (by simp [tabF, h])
theorem rowF_set {n k : Nat} {g : Nat → Int} {v : Int} (h : k < n) : siM (rowF n g) (k : Int) v = some (rowF n fun k' => if k' = k then v else g k') := by
  rw [siM_of (by simp [rowF, h])]
  congr 1
  apply List.ext_getElem?
  intro j
  unfold rowF
  by_cases hj : j = k
  · subst hj
    rw [List.getElem?_set_self (by simp [h])]
    simp [h]
  · rw [List.getElem?_set_ne (Ne.symm hj)]
    by_cases hl : j < n
    · simp [hl, hj]
    · rw [List.getElem?_eq_none (by simp; omega), List.getElem?_eq_none (by simp; omega)]
theorem tabF_set {n m i : Nat} {f : Nat → Nat → Int} {g : Nat → Int} (h : i < n) : siM (tabF n m f) (i : Int) (rowF m g) = some (tabF n m fun i' => if i' = i then g else f i') := by
  rw [siM_of (by simp [tabF, h])]
  congr 1
  apply List.ext_getElem?
  intro j
  unfold tabF
  by_cases hj : j = i
  · subst hj
    rw [List.getElem?_set_self (by simp [h])]
    simp [h]
  · rw [List.getElem?_set_ne (Ne.symm hj)]
    by_cases hl : j < n
    · simp [hl, hj]
    · rw [List.getElem?_eq_none (by simp; omega), List.getElem?_eq_none (by simp; omega)]
section
variable (a b : List Str)
def lcsAt (i k : Nat) : Int := lcsL (a.drop i) (b.drop k)
def stage (i k i' k' : Nat) : Int := if i < i' ∨ (i = i' ∧ k ≤ k') then lcsAt a b i' k' else 0
def lcsT : List (List Int) := tabF (a.length + 1) (b.length + 1) (lcsAt a b)
end
section
variable {a b : List Str}
theorem lcsAt_end (i : Nat) : lcsAt a b i b.length = 0 := by unfold lcsAt; rw [List.drop_length, lcsL_nilr]
theorem lcsAt_endl (k : Nat) : lcsAt a b a.length k = 0 := by unfold lcsAt; rw [List.drop_length, lcsL_nil]
theorem lcsAt_lo (i k : Nat) : 0 ≤ lcsAt a b i k := lcsL_lo _ _
theorem lcsAt_hi (i k : Nat) : lcsAt a b i k ≤ a.length := by
  have := lcsL_hi (a.drop i) (b.drop k)
  unfold lcsAt
  simp only [List.length_drop] at this
  omega
theorem lcsAt_step {i k : Nat} {x y : Str} (hx : a[i]? = some x) (hy : b[k]? = some y) : lcsAt a b i k = if x == y then lcsAt a b (i + 1) (k + 1) + 1 else maxI (lcsAt a b (i + 1) k) (lcsAt a b i (k + 1)) := by
  have hi := ix_of hx
  have hk := ix_of hy
  have ex : a[i] = x := by rw [List.getElem?_eq_getElem hi] at hx; exact Option.some.inj hx
  have ey : b[k] = y := by rw [List.getElem?_eq_getElem hk] at hy; exact Option.some.inj hy
  unfold lcsAt
  rw [List.drop_eq_getElem_cons hi, List.drop_eq_getElem_cons hk, lcsL_cons, ex, ey]
theorem stage_row {i k : Nat} {v : Int} (hv : v = lcsAt a b i k) (n m : Nat) : tabF n m (fun i' => if i' = i then (fun k' => if k' = k then v else stage a b i (k + 1) i k') else stage a b i (k + 1) i') = tabF n m (stage a b i k) := by
  refine tabF_congr fun i' k' _ _ => ?_
  by_cases h1 : i' = i
  · subst h1
    rw [if_pos rfl]
    by_cases h2 : k' = k
    · subst h2
      rw [if_pos rfl, hv]
      simp [stage]
    · rw [if_neg h2]
      simp only [stage, Nat.lt_irrefl, false_or, true_and]
      by_cases h3 : k + 1 ≤ k'
      · rw [if_pos h3, if_pos (by omega)]
      · rw [if_neg h3, if_neg (by omega)]
  · rw [if_neg h1]
    simp only [stage]
    by_cases h3 : i < i'
    · rw [if_pos (.inl h3), if_pos (.inl h3)]
    · rw [if_neg (by omega), if_neg (by omega)]
theorem stage_next (i : Nat) : tabF (a.length + 1) (b.length + 1) (stage a b (i + 1) 0) = tabF (a.length + 1) (b.length + 1) (stage a b i b.length) := by
  refine tabF_congr fun i' k' _ hk => ?_
  simp only [stage, Nat.zero_le, and_true]
  by_cases h : i < i'
  · rw [if_pos (by omega), if_pos (.inl h)]
  · rw [if_neg (by omega)]
    by_cases h2 : i = i' ∧ b.length ≤ k'
    · rw [if_pos (.inr h2), show k' = b.length by omega, lcsAt_end]
    · rw [if_neg (by omega)]
theorem stage_start : tabF (a.length + 1) (b.length + 1) (fun _ _ => 0) = tabF (a.length + 1) (b.length + 1) (stage a b a.length 0) := by
  refine tabF_congr fun i' k' hi _ => ?_
  simp only [stage, Nat.zero_le, and_true]
  by_cases h : a.length < i' ∨ a.length = i'
  · rw [if_pos h, show i' = a.length by omega, lcsAt_endl]
  · rw [if_neg h]
theorem stage_end : tabF (a.length + 1) (b.length + 1) (stage a b 0 0) = lcsT a b := by
  refine tabF_congr fun i' k' _ _ => ?_
  simp only [stage, Nat.zero_le, and_true]
  rw [if_pos (by omega)]
theorem ilcs_l3 (hb : b.length ≤ maxi) (hN : (a.length : Int) + 1 ≤ 9223372036854775807) {i : Nat} (hi : i < a.length) {R : Int → List (List Int) → Option (List (List Int))} : ∀ (k m : Nat), k ≤ b.length → k < m →
    impl_lcs_l3 a b (i : Int) R m ((k : Int) - 1) (tabF (a.length + 1) (b.length + 1) (stage a b i k)) = R (-1) (tabF (a.length + 1) (b.length + 1) (stage a b i 0))
  | 0, 0, _, h => by omega
  | 0, m + 1, _, _ => by
    simp only [impl_lcs_l3]
    rw [decide_eq_false (by omega)]; rfl
  | k + 1, 0, _, h => by omega
  | k + 1, m + 1, hk, hm => by
    unfold maxi at hb
    have hx : a[i]? = some a[i] := List.getElem?_eq_getElem hi
    have hy : b[k]? = some b[k] := List.getElem?_eq_getElem (by omega)
    have hst := lcsAt_step hx hy
    have e1 : (((k + 1 : Nat) : Int) - 1) = (k : Int) := by omega
    have e2 : w64 ((i : Int) + 1) = ((i + 1 : Nat) : Int) := by rw [w64_id (by omega) (by omega)]; omega
    have e3 : w64 ((k : Int) + 1) = ((k + 1 : Nat) : Int) := by rw [w64_id (by omega) (by omega)]; omega
    have e4 : w64 ((k : Int) - 1) = (k : Int) - 1 := w64_id (by omega) (by omega)
    have s1 : stage a b i (k + 1) (i + 1) (k + 1) = lcsAt a b (i + 1) (k + 1) := by simp [stage]
    have s2 : stage a b i (k + 1) (i + 1) k = lcsAt a b (i + 1) k := by simp [stage]
    have s3 : stage a b i (k + 1) i (k + 1) = lcsAt a b i (k + 1) := by simp [stage]
    have lo := lcsAt_lo (a := a) (b := b) (i + 1) (k + 1)
    have hi' := lcsAt_hi (a := a) (b := b) (i + 1) (k + 1)
    have ih := ilcs_l3 (by unfold maxi; exact hb) hN hi (R := R) k m (by omega) (by omega)
    simp only [impl_lcs_l3, jn, e1, e2, e3, e4, gi_of hx, gi_of hy, Option.bind_some, decide_eq_true (show (0 : Int) ≤ (k : Int) by omega), cond_true,
      tabF_at (show i < a.length + 1 by omega), tabF_at (show i + 1 < a.length + 1 by omega), rowF_at (show k < b.length + 1 by omega), rowF_at (show k + 1 < b.length + 1 by omega), s1, s2, s3,
      rowF_set (show k < b.length + 1 by omega), tabF_set (show i < a.length + 1 by omega)]
    cases he : a[i] == b[k] with
    | true =>
      rw [he, if_pos rfl] at hst
      rw [cond_true, w64_id (by omega) (by omega), stage_row hst.symm]
      exact ih
    | false =>
      rw [he, if_neg (by simp)] at hst
      rw [cond_false, stage_row hst.symm]
      exact ih
theorem ilcs_l2 (hb : b.length ≤ maxi) (hN : (a.length : Int) + 1 ≤ 9223372036854775807) (hNb : (b.length : Int) + 1 ≤ 9223372036854775807) {R : Int → List (List Int) → Option (List (List Int))} : ∀ (i m : Nat), i ≤ a.length → i < m →
    impl_lcs_l2 a b R m ((i : Int) - 1) (tabF (a.length + 1) (b.length + 1) (stage a b i 0)) = R (-1) (tabF (a.length + 1) (b.length + 1) (stage a b 0 0))
  | 0, 0, _, h => by omega
  | 0, m + 1, _, _ => by
    simp only [impl_lcs_l2]
    rw [decide_eq_false (by omega)]; rfl
  | i + 1, 0, _, h => by omega
  | i + 1, m + 1, hi, hm => by
    have e1 : (((i + 1 : Nat) : Int) - 1) = (i : Int) := by omega
    have e2 : w64 ((b.length : Int) - 1) = (b.length : Int) - 1 := w64_id (by omega) (by omega)
    have e3 : w64 ((i : Int) - 1) = (i : Int) - 1 := w64_id (by omega) (by omega)
    simp only [impl_lcs_l2, jn, e1, e2, decide_eq_true (show (0 : Int) ≤ (i : Int) by omega), cond_true]
    rw [stage_next, ilcs_l3 hb hN (by omega) b.length _ (Nat.le_refl _) (by omega), e3]
    exact ilcs_l2 hb hN hNb i m (by omega) (by omega)
theorem ilcs_l1 (hb : b.length ≤ 1048576) {N : Nat} (hN : N ≤ 1048576) {q : List (List Int)} (hq : q.length = N) {R : Int → List (List Int) → Option (List (List Int))} : ∀ (n i m : Nat), i + n = N → n < m →
    impl_lcs_l1 b q R m (i : Int) ((List.range i).map (fun _ => rowF (b.length + 1) fun _ => 0) ++ List.replicate n []) = R (N : Int) (tabF N (b.length + 1) fun _ _ => 0)
  | n, i, 0, _, h => by omega
  | 0, i, m + 1, hi, _ => by
    simp only [impl_lcs_l1]
    rw [hq, decide_eq_false (by omega), show i = N by omega]
    simp [tabF]
  | n + 1, i, m + 1, hi, hm => by
    have e1 : w64 ((b.length : Int) + 1) = ((b.length + 1 : Nat) : Int) := by rw [w64_id (by omega) (by omega)]; omega
    have e2 : w64 ((i : Int) + 1) = ((i + 1 : Nat) : Int) := by rw [w64_id (by omega) (by omega)]; omega
    have hl : ((List.range i).map (fun _ => rowF (b.length + 1) fun _ => 0) ++ List.replicate (n + 1) []).length = i + (n + 1) := by simp
    obtain ⟨u, hu⟩ : ∃ u, ((List.range i).map (fun _ => rowF (b.length + 1) fun _ => 0) ++ List.replicate (n + 1) ([] : List Int))[i]? = some u := ⟨_, List.getElem?_eq_getElem (by omega)⟩
    simp only [impl_lcs_l1, hq, e1, e2, decide_eq_true (show (i : Int) < (N : Int) by omega), cond_true, mkM_of (show b.length + 1 ≤ lim by unfold lim; omega), Option.bind_some, gi_of hu]
    rw [siM_of (by rw [hl]; omega), Option.bind_some]
    have hset : ((List.range i).map (fun _ => rowF (b.length + 1) fun _ => 0) ++ List.replicate (n + 1) []).set i (List.replicate (b.length + 1) (0 : Int)) = (List.range (i + 1)).map (fun _ => rowF (b.length + 1) fun _ => 0) ++ List.replicate n [] := by
      rw [List.set_append, if_neg (by simp)]
      have hr : rowF (b.length + 1) (fun _ => 0) = List.replicate (b.length + 1) (0 : Int) := by
        unfold rowF
        rw [List.map_const', List.length_range]
      simp [List.range_succ, List.replicate_succ, hr]
    rw [hset]
    exact ilcs_l1 hb hN hq n (i + 1) m (by omega) (by omega)
theorem ilcs_eq (ha : a.length ≤ 1000) (hb : b.length ≤ 1000) : impl_lcs a b = some (lcsT a b) := by
  unfold impl_lcs
  have e1 : w64 ((a.length : Int) + 1) = ((a.length + 1 : Nat) : Int) := by rw [w64_id (by omega) (by omega)]; omega
  have e2 : w64 ((a.length : Int) - 1) = (a.length : Int) - 1 := w64_id (by omega) (by omega)
  rw [e1, mkM_of (by unfold lim; omega), Option.bind_some]
  simp only [jn, e2]
  have h1 := ilcs_l1 (b := b) (by omega) (N := a.length + 1) (by omega) (q := List.replicate (a.length + 1) []) (by simp)
    (R := fun y6 y7 => impl_lcs_l2 a b (fun y27 y29 => some y29) (((a.length : Int) - 1 + 1 - 0).toNat + 1) ((a.length : Int) - 1) y7) (a.length + 1) 0 (((List.replicate (a.length + 1) ([] : List Int)).length - (0 : Int)).toNat + 1) (by omega) (by simp)
  simp only [List.range_zero, List.map_nil, List.nil_append] at h1
  refine h1.trans ?_
  rw [stage_start, ilcs_l2 (by unfold maxi; omega) (by omega) (by omega) a.length _ (Nat.le_refl _) (by omega), stage_end]
theorem slcs_l3 (hb : b.length ≤ maxi) (hN : (a.length : Int) + 1 ≤ 9223372036854775807) {i : Nat} (hi : i < a.length) {R : Int → List (List Int) → Option (List (List Int))} : ∀ (k m : Nat), k ≤ b.length → k < m →
    spec_l1Table_l3 a b (i : Int) R m ((k : Int) - 1) (tabF (a.length + 1) (b.length + 1) (stage a b i k)) = R (-1) (tabF (a.length + 1) (b.length + 1) (stage a b i 0))
  | 0, 0, _, h => by omega
  | 0, m + 1, _, _ => by
    simp only [spec_l1Table_l3]
    rw [decide_eq_false (by omega)]; rfl
  | k + 1, 0, _, h => by omega
  | k + 1, m + 1, hk, hm => by
    unfold maxi at hb
    have hx : a[i]? = some a[i] := List.getElem?_eq_getElem hi
    have hy : b[k]? = some b[k] := List.getElem?_eq_getElem (by omega)
    have hst := lcsAt_step hx hy
    have e1 : (((k + 1 : Nat) : Int) - 1) = (k : Int) := by omega
    have e2 : w64 ((i : Int) + 1) = ((i + 1 : Nat) : Int) := by rw [w64_id (by omega) (by omega)]; omega
    have e3 : w64 ((k : Int) + 1) = ((k + 1 : Nat) : Int) := by rw [w64_id (by omega) (by omega)]; omega
    have e4 : w64 ((k : Int) - 1) = (k : Int) - 1 := w64_id (by omega) (by omega)
    have s1 : stage a b i (k + 1) (i + 1) (k + 1) = lcsAt a b (i + 1) (k + 1) := by simp [stage]
    have s2 : stage a b i (k + 1) (i + 1) k = lcsAt a b (i + 1) k := by simp [stage]
    have s3 : stage a b i (k + 1) i (k + 1) = lcsAt a b i (k + 1) := by simp [stage]
    have lo := lcsAt_lo (a := a) (b := b) (i + 1) (k + 1)
    have hi' := lcsAt_hi (a := a) (b := b) (i + 1) (k + 1)
    have ih := slcs_l3 (by unfold maxi; exact hb) hN hi (R := R) k m (by omega) (by omega)
    simp only [spec_l1Table_l3, jn, e1, e2, e3, e4, gi_of hx, gi_of hy, Option.bind_some, decide_eq_true (show (0 : Int) ≤ (k : Int) by omega), cond_true,
      tabF_at (show i < a.length + 1 by omega), tabF_at (show i + 1 < a.length + 1 by omega), rowF_at (show k < b.length + 1 by omega), rowF_at (show k + 1 < b.length + 1 by omega), s1, s2, s3,
      rowF_set (show k < b.length + 1 by omega), tabF_set (show i < a.length + 1 by omega)]
    cases he : a[i] == b[k] with
    | true =>
      rw [he, if_pos rfl] at hst
      rw [cond_true, w64_id (by omega) (by omega), stage_row hst.symm]
      exact ih
    | false =>
      rw [he, if_neg (by simp)] at hst
      rw [cond_false]
      unfold maxI at hst
      by_cases hc : lcsAt a b i (k + 1) ≤ lcsAt a b (i + 1) k
      · rw [if_neg (by omega)] at hst
        rw [decide_eq_true hc, cond_true, stage_row hst.symm]
        exact ih
      · rw [if_pos (by omega)] at hst
        rw [decide_eq_false hc, cond_false, stage_row hst.symm]
        exact ih
theorem slcs_l2 (hb : b.length ≤ maxi) (hN : (a.length : Int) + 1 ≤ 9223372036854775807) (hNb : (b.length : Int) + 1 ≤ 9223372036854775807) {R : Int → List (List Int) → Option (List (List Int))} : ∀ (i m : Nat), i ≤ a.length → i < m →
    spec_l1Table_l2 a b R m ((i : Int) - 1) (tabF (a.length + 1) (b.length + 1) (stage a b i 0)) = R (-1) (tabF (a.length + 1) (b.length + 1) (stage a b 0 0))
  | 0, 0, _, h => by omega
  | 0, m + 1, _, _ => by
    simp only [spec_l1Table_l2]
    rw [decide_eq_false (by omega)]; rfl
  | i + 1, 0, _, h => by omega
  | i + 1, m + 1, hi, hm => by
    have e1 : (((i + 1 : Nat) : Int) - 1) = (i : Int) := by omega
    have e2 : w64 ((b.length : Int) - 1) = (b.length : Int) - 1 := w64_id (by omega) (by omega)
    have e3 : w64 ((i : Int) - 1) = (i : Int) - 1 := w64_id (by omega) (by omega)
    simp only [spec_l1Table_l2, jn, e1, e2, decide_eq_true (show (0 : Int) ≤ (i : Int) by omega), cond_true]
    rw [stage_next, slcs_l3 hb hN (by omega) b.length _ (Nat.le_refl _) (by omega), e3]
    exact slcs_l2 hb hN hNb i m (by omega) (by omega)
theorem slcs_l1 (ha : a.length ≤ 1000) (hb : b.length ≤ 1000) {R : List (List Int) → Int → Option (List (List Int))} : ∀ (n i m : Nat), i + n = a.length + 1 → n < m →
    spec_l1Table_l1 a b R m ((List.range i).map (fun _ => rowF (b.length + 1) fun _ => 0)) (i : Int) = R (tabF (a.length + 1) (b.length + 1) fun _ _ => 0) ((a.length + 1 : Nat) : Int)
  | n, i, 0, _, h => by omega
  | 0, i, m + 1, hi, _ => by
    simp only [spec_l1Table_l1]
    rw [decide_eq_false (by omega), show i = a.length + 1 by omega]
    simp [tabF]
  | n + 1, i, m + 1, hi, hm => by
    have e1 : w64 ((b.length : Int) + 1) = ((b.length + 1 : Nat) : Int) := by rw [w64_id (by omega) (by omega)]; omega
    have e2 : w64 ((i : Int) + 1) = ((i + 1 : Nat) : Int) := by rw [w64_id (by omega) (by omega)]; omega
    have hr : rowF (b.length + 1) (fun _ => 0) = List.replicate (b.length + 1) (0 : Int) := by
      unfold rowF
      rw [List.map_const', List.length_range]
    simp only [spec_l1Table_l1, e1, e2, decide_eq_true (show (i : Int) ≤ (a.length : Int) by omega), cond_true, mkM_of (show b.length + 1 ≤ lim by unfold lim; omega), Option.bind_some]
    rw [apM_of (by simp [lim]; omega), Option.bind_some]
    have hset : (List.range i).map (fun _ => rowF (b.length + 1) fun _ => 0) ++ [List.replicate (b.length + 1) (0 : Int)] = (List.range (i + 1)).map (fun _ => rowF (b.length + 1) fun _ => 0) := by
      simp [List.range_succ, hr]
    rw [hset]
    exact slcs_l1 ha hb n (i + 1) m (by omega) (by omega)
theorem slcs_eq (ha : a.length ≤ 1000) (hb : b.length ≤ 1000) : spec_l1Table a b = some (lcsT a b) := by
  unfold spec_l1Table
  have e2 : w64 ((a.length : Int) - 1) = (a.length : Int) - 1 := w64_id (by omega) (by omega)
  simp only [jn, e2]
  have h1 := slcs_l1 (a := a) (b := b) ha hb
    (R := fun y3 y6 => spec_l1Table_l2 a b (fun y28 y30 => some y30) (((a.length : Int) - 1 + 1 - 0).toNat + 1) ((a.length : Int) - 1) y3) (a.length + 1) 0 (((a.length : Int) + 1 - 0).toNat + 1) (by omega) (by omega)
  simp only [List.range_zero, List.map_nil] at h1
  refine h1.trans ?_
  rw [stage_start, slcs_l2 (by unfold maxi; omega) (by omega) (by omega) a.length _ (Nat.le_refl _) (by omega), stage_end]
end
end Go.Vm
namespace Go.Vm
open Go Go.Sx
set_option linter.unusedSimpArgs false
set_option linter.unusedVariables false
def mtF : List Str → List Str → Nat → List Int
  | [], _, _ => []
  | _ :: xs, [], k => -1 :: mtF xs [] k
  | x :: xs, y :: ys, k => if x == y then (k : Int) :: mtF xs ys (k + 1) else if lcsL (x :: xs) ys ≤ lcsL xs (y :: ys) then -1 :: mtF xs (y :: ys) k else mtF (x :: xs) ys (k + 1)
termination_by a b _ => a.length + b.length
theorem mtF_nil (b : List Str) (k : Nat) : mtF [] b k = [] := by rw [mtF]
theorem mtF_nilr (x : Str) (xs : List Str) (k : Nat) : mtF (x :: xs) [] k = -1 :: mtF xs [] k := by rw [mtF]
theorem mtF_cons (x y : Str) (xs ys : List Str) (k : Nat) : mtF (x :: xs) (y :: ys) k = if x == y then (k : Int) :: mtF xs ys (k + 1) else if lcsL (x :: xs) ys ≤ lcsL xs (y :: ys) then -1 :: mtF xs (y :: ys) k else mtF (x :: xs) ys (k + 1) := by rw [mtF]
def mt2 (a b : List Str) : List Int := mtF a b 0
theorem ap1' {xs : List Int} {x : Int} (h : xs.length ≤ 1000000) : apM xs [x] = some (xs ++ [x]) := apM_of (by simp [lim]; omega)
section
variable {a b : List Str}
theorem lcsT_at {i k : Nat} (hi : i ≤ a.length) (hk : k ≤ b.length) : ∃ r, gi (lcsT a b) (i : Int) = some r ∧ gi r (k : Int) = some (lcsAt a b i k) :=
  ⟨_, tabF_at (by omega), rowF_at (by omega)⟩
theorem drop_at {i : Nat} (h : i < a.length) : a.drop i = a[i] :: a.drop (i + 1) := List.drop_eq_getElem_cons h
theorem imt_l1 (ha : a.length ≤ 1000) (hb : b.length ≤ 1000) : ∀ (m i k : Nat) (out : List Int), (a.length - i) + (b.length - k) < m → i ≤ a.length → k ≤ b.length → out.length = i →
    impl_match_l1 a b (lcsT a b) (fun y5 _ _ => some y5) m out (i : Int) (k : Int) = some (out ++ mtF (a.drop i) (b.drop k) k)
  | 0, i, k, out, hm, _, _, _ => by omega
  | m + 1, i, k, out, hm, hi, hk, ho => by
    have e2 : w64 ((i : Int) + 1) = ((i + 1 : Nat) : Int) := by rw [w64_id (by omega) (by omega)]; omega
    have e3 : w64 ((k : Int) + 1) = ((k + 1 : Nat) : Int) := by rw [w64_id (by omega) (by omega)]; omega
    simp only [impl_match_l1, jn, e2, e3]
    by_cases hil : i < a.length
    case neg =>
      rw [decide_eq_false (by omega), cond_false, show i = a.length by omega, List.drop_length, mtF_nil, List.append_nil]
    have hx : a[i]? = some a[i] := List.getElem?_eq_getElem hil
    rw [decide_eq_true (by omega), cond_true, drop_at hil]
    by_cases hkl : k < b.length
    case neg =>
      have hke : k = b.length := by omega
      rw [decide_eq_false (by omega), cond_false, cond_false, show ((k : Int) == (b.length : Int)) = true by simp [hke], cond_true, cond_true, ap1' (by omega), Option.bind_some,
        imt_l1 ha hb m (i + 1) k _ (by omega) (by omega) hk (by simp [ho])]
      rw [hke, List.drop_length, mtF_nilr]
      simp
    have hy : b[k]? = some b[k] := List.getElem?_eq_getElem hkl
    rw [decide_eq_true (by omega), cond_true, gi_of hx, Option.bind_some, gi_of hy, Option.bind_some, drop_at hkl, mtF_cons]
    cases he : a[i] == b[k] with
    | true =>
      rw [cond_true, ap1' (by omega), Option.bind_some, imt_l1 ha hb m (i + 1) (k + 1) _ (by omega) (by omega) (by omega) (by simp [ho])]
      simp
    | false =>
      rw [cond_false, show ((k : Int) == (b.length : Int)) = false by simp; omega, cond_false]
      obtain ⟨r1, h1, h2⟩ := lcsT_at (a := a) (b := b) (i := i + 1) (k := k) (by omega) (by omega)
      obtain ⟨r3, h3, h4⟩ := lcsT_at (a := a) (b := b) (i := i) (k := k + 1) (by omega) (by omega)
      rw [h1, Option.bind_some, h2, Option.bind_some, h3, Option.bind_some, h4, Option.bind_some]
      have c1 : lcsAt a b i (k + 1) = lcsL (a[i] :: a.drop (i + 1)) (b.drop (k + 1)) := by unfold lcsAt; rw [drop_at hil]
      have c2 : lcsAt a b (i + 1) k = lcsL (a.drop (i + 1)) (b[k] :: b.drop (k + 1)) := by unfold lcsAt; rw [drop_at hkl]
      rw [← c1, ← c2]
      by_cases hc : lcsAt a b i (k + 1) ≤ lcsAt a b (i + 1) k
      · rw [decide_eq_true hc, cond_true, ap1' (by omega), Option.bind_some, imt_l1 ha hb m (i + 1) k _ (by omega) (by omega) hk (by simp [ho]), if_neg (by simp), if_pos hc, drop_at hkl]
        simp
      · rw [decide_eq_false hc, cond_false, imt_l1 ha hb m i (k + 1) _ (by omega) hi (by omega) ho, if_neg (by simp), if_neg hc, drop_at hil]
theorem imatch_eq (ha : a.length ≤ 1000) (hb : b.length ≤ 1000) : impl_match a b = some (mt2 a b) := by
  unfold impl_match
  rw [ilcs_eq ha hb, Option.bind_some]
  simp only [jn]
  have := imt_l1 ha hb (a.length + b.length + 1) 0 0 [] (by omega) (by omega) (by omega) rfl
  simpa [mt2] using this
theorem smt_l1 (ha : a.length ≤ 1000) (hb : b.length ≤ 1000) : ∀ (m i k : Nat) (out : List Int), (a.length - i) + (b.length - k) < m → i ≤ a.length → k ≤ b.length → out.length = i →
    spec_l1Match_l1 a b (lcsT a b) (fun y5 _ _ => some y5) m out (k : Int) (i : Int) = some (out ++ mtF (a.drop i) (b.drop k) k)
  | 0, i, k, out, hm, _, _, _ => by omega
  | m + 1, i, k, out, hm, hi, hk, ho => by
    have e2 : w64 ((i : Int) + 1) = ((i + 1 : Nat) : Int) := by rw [w64_id (by omega) (by omega)]; omega
    have e3 : w64 ((k : Int) + 1) = ((k + 1 : Nat) : Int) := by rw [w64_id (by omega) (by omega)]; omega
    simp only [spec_l1Match_l1, jn, e2, e3]
    by_cases hil : i < a.length
    case neg =>
      rw [decide_eq_false (by omega), cond_false, show i = a.length by omega, List.drop_length, mtF_nil, List.append_nil]
    have hx : a[i]? = some a[i] := List.getElem?_eq_getElem hil
    rw [decide_eq_true (by omega), cond_true, drop_at hil]
    by_cases hkl : k < b.length
    case neg =>
      have hke : k = b.length := by omega
      rw [decide_eq_false (by omega), cond_false, cond_false, decide_eq_true (by omega), cond_true, cond_true, ap1' (by omega), Option.bind_some,
        smt_l1 ha hb m (i + 1) k _ (by omega) (by omega) hk (by simp [ho])]
      rw [hke, List.drop_length, mtF_nilr]
      simp
    have hy : b[k]? = some b[k] := List.getElem?_eq_getElem hkl
    rw [decide_eq_true (by omega), cond_true, gi_of hx, Option.bind_some, gi_of hy, Option.bind_some, drop_at hkl, mtF_cons]
    cases he : a[i] == b[k] with
    | true =>
      rw [cond_true, ap1' (by omega), Option.bind_some, smt_l1 ha hb m (i + 1) (k + 1) _ (by omega) (by omega) (by omega) (by simp [ho])]
      simp
    | false =>
      rw [cond_false, decide_eq_false (by omega), cond_false]
      obtain ⟨r1, h1, h2⟩ := lcsT_at (a := a) (b := b) (i := i + 1) (k := k) (by omega) (by omega)
      obtain ⟨r3, h3, h4⟩ := lcsT_at (a := a) (b := b) (i := i) (k := k + 1) (by omega) (by omega)
      rw [h1, Option.bind_some, h2, Option.bind_some, h3, Option.bind_some, h4, Option.bind_some]
      have c1 : lcsAt a b i (k + 1) = lcsL (a[i] :: a.drop (i + 1)) (b.drop (k + 1)) := by unfold lcsAt; rw [drop_at hil]
      have c2 : lcsAt a b (i + 1) k = lcsL (a.drop (i + 1)) (b[k] :: b.drop (k + 1)) := by unfold lcsAt; rw [drop_at hkl]
      rw [← c1, ← c2]
      by_cases hc : lcsAt a b i (k + 1) ≤ lcsAt a b (i + 1) k
      · rw [decide_eq_true hc, cond_true, ap1' (by omega), Option.bind_some, smt_l1 ha hb m (i + 1) k _ (by omega) (by omega) hk (by simp [ho]), if_neg (by simp), if_pos hc, drop_at hkl]
        simp
      · rw [decide_eq_false hc, cond_false, smt_l1 ha hb m i (k + 1) _ (by omega) hi (by omega) ho, if_neg (by simp), if_neg hc, drop_at hil]
theorem smatch_eq (ha : a.length ≤ 1000) (hb : b.length ≤ 1000) : spec_l1Match a b = some (mt2 a b) := by
  unfold spec_l1Match
  rw [slcs_eq ha hb, Option.bind_some]
  simp only [jn]
  have := smt_l1 ha hb (a.length + b.length + 1) 0 0 [] (by omega) (by omega) (by omega) rfl
  simpa [mt2] using this
end
def Asc (hi : Int) : Int → List Int → Prop
  | _, [] => True
  | lo, x :: l => (x = -1 ∧ Asc hi lo l) ∨ (lo ≤ x ∧ x < hi ∧ Asc hi (x + 1) l)
theorem Asc.mono {hi : Int} : ∀ {l : List Int} {lo lo' : Int}, lo' ≤ lo → Asc hi lo l → Asc hi lo' l
  | [], _, _, _, _ => trivial
  | x :: l, lo, lo', h, .inl ⟨h1, h2⟩ => .inl ⟨h1, Asc.mono h h2⟩
  | x :: l, lo, lo', h, .inr ⟨h1, h2, h3⟩ => .inr ⟨by omega, h2, h3⟩
theorem mtF_asc : ∀ (n : Nat) (a b : List Str) (k : Nat), a.length + b.length ≤ n → Asc ((k + b.length : Nat) : Int) (k : Int) (mtF a b k) ∧ (mtF a b k).length = a.length
  | _, [], b, k, _ => by rw [mtF_nil]; exact ⟨trivial, rfl⟩
  | 0, x :: xs, b, k, h => by simp at h
  | n + 1, x :: xs, [], k, h => by
    rw [mtF_nilr]
    have := mtF_asc n xs [] k (by simp at h ⊢; omega)
    exact ⟨.inl ⟨rfl, this.1⟩, by simp [this.2]⟩
  | n + 1, x :: xs, y :: ys, k, h => by
    simp only [List.length_cons] at h
    rw [mtF_cons]
    split
    · have := mtF_asc n xs ys (k + 1) (by omega)
      refine ⟨.inr ⟨Int.le_refl _, by simp only [List.length_cons]; omega, ?_⟩, by simp [this.2]⟩
      have h1 := this.1
      rw [show ((k + (y :: ys).length : Nat) : Int) = ((k + 1 + ys.length : Nat) : Int) by simp only [List.length_cons]; omega, show (k : Int) + 1 = ((k + 1 : Nat) : Int) by omega]
      exact h1
    · split
      · have := mtF_asc n xs (y :: ys) k (by simp; omega)
        exact ⟨.inl ⟨rfl, this.1⟩, by simp [this.2]⟩
      · have := mtF_asc n (x :: xs) ys (k + 1) (by simp; omega)
        refine ⟨?_, by simp [this.2]⟩
        have h1 := this.1
        rw [show ((k + (y :: ys).length : Nat) : Int) = ((k + 1 + ys.length : Nat) : Int) by simp only [List.length_cons]; omega]
        exact h1.mono (by omega)
theorem mt2_asc (a b : List Str) : Asc (b.length : Int) 0 (mt2 a b) ∧ (mt2 a b).length = a.length := by
  have := mtF_asc _ a b 0 (Nat.le_refl _)
  simpa [mt2] using this
theorem Asc.snoc {hi : Int} (h0 : 0 ≤ hi) : ∀ {l : List Int} {lo : Int}, lo ≤ hi → Asc hi lo l → Asc (hi + 1) lo (l ++ [hi])
  | [], lo, h, _ => .inr ⟨h, by omega, trivial⟩
  | x :: l, lo, h, .inl ⟨h1, h2⟩ => .inl ⟨h1, Asc.snoc h0 h h2⟩
  | x :: l, lo, h, .inr ⟨h1, h2, h3⟩ => .inr ⟨h1, by omega, Asc.snoc h0 (by omega) h3⟩
end Go.Vm
namespace Go.Sx
open Go
theorem loop_foldM {R α σ : Type} {xs : List α} {step : σ → α → Option σ} {r0 : Option R} (Inv : Nat → σ → Prop) {f : Nat → σ → Int → Option R} {Z : σ → Option R} {s0 : σ}
    (hs : ∀ m (i : Nat) x s, xs[i]? = some x → Inv i s → (f (m + 1) s (i : Int) = match step s x with | some s' => f m s' ((i + 1 : Nat) : Int) | none => r0) ∧ ∀ s', step s x = some s' → Inv (i + 1) s')
    (he : ∀ m s, Inv xs.length s → f (m + 1) s (xs.length : Int) = Z s) {m : Nat} (hm : xs.length < m) (h0 : Inv 0 s0) :
    f m s0 0 = (match xs.foldlM step s0 with | some s => Z s | none => r0) ∧ ∀ s, xs.foldlM step s0 = some s → Inv xs.length s := by
  have key : ∀ k i m s, i + k = xs.length → k < m → Inv i s → f m s (i : Int) = (match (xs.drop i).foldlM step s with | some s => Z s | none => r0) ∧ ∀ s', (xs.drop i).foldlM step s = some s' → Inv xs.length s' := by
    intro k
    induction k with
    | zero =>
      intro i m s hi hm hI
      obtain ⟨m, rfl⟩ : ∃ q, m = q + 1 := ⟨m - 1, by omega⟩
      have hii : i = xs.length := by omega
      subst hii
      rw [he m s hI, List.drop_length]
      exact ⟨rfl, fun s' h => by have : s = s' := by simpa using h
                                 rw [← this]; exact hI⟩
    | succ k ih =>
      intro i m s hi hm hI
      obtain ⟨m, rfl⟩ : ∃ q, m = q + 1 := ⟨m - 1, by omega⟩
      have hlt : i < xs.length := by omega
      obtain ⟨h1, h2⟩ := hs m i xs[i] s (List.getElem?_eq_getElem hlt) hI
      rw [h1, List.drop_eq_getElem_cons hlt, List.foldlM_cons]
      cases hst : step s xs[i] with
      | none => exact ⟨rfl, fun s' h => by simp at h⟩
      | some s1 =>
        obtain ⟨h3, h4⟩ := ih (i + 1) m s1 (by omega) (by omega) (h2 s1 hst)
        exact ⟨h3, h4⟩
  have := key xs.length 0 m s0 (by omega) hm h0
  simpa using this
theorem loop_find {R α : Type} {xs : List α} {p : α → Bool} {r : α → Option R} {Z : Option R} {f : Nat → Int → Option R}
    (hs : ∀ m (i : Nat) x, xs[i]? = some x → f (m + 1) (i : Int) = bif p x then r x else f m ((i + 1 : Nat) : Int)) (he : ∀ m, f (m + 1) (xs.length : Int) = Z) {m : Nat} (hm : xs.length < m) :
    f m 0 = match xs.find? p with | some x => r x | none => Z := by
  have key : ∀ k i m, i + k = xs.length → k < m → f m (i : Int) = match (xs.drop i).find? p with | some x => r x | none => Z := by
    intro k
    induction k with
    | zero =>
      intro i m hi hm
      obtain ⟨m, rfl⟩ : ∃ q, m = q + 1 := ⟨m - 1, by omega⟩
      rw [show i = xs.length by omega, he, List.drop_length]
      rfl
    | succ k ih =>
      intro i m hi hm
      obtain ⟨m, rfl⟩ : ∃ q, m = q + 1 := ⟨m - 1, by omega⟩
      have hlt : i < xs.length := by omega
      rw [hs m i xs[i] (List.getElem?_eq_getElem hlt), List.drop_eq_getElem_cons hlt, List.find?_cons]
      cases p xs[i] with
      | true => rfl
      | false => exact ih (i + 1) m (by omega) (by omega)
  have := key xs.length 0 m (by omega) hm
  simpa using this
end Go.Sx
namespace Go.Vm
open Go Go.Sx
set_option linter.unusedSimpArgs false
set_option linter.unusedVariables false
def lnP (l : List Str) : Part := ⟨false, l, [], [], []⟩
def partP (o a b : List Str) : Part := bif a == o || a == b then lnP b else bif b == o then lnP a else ⟨true, [], o, a, b⟩
def putP (out : List Part) (p : Part) : List Part :=
  bif !p.Clash && p.Lines.length == 0 then out else
  match out[out.length - 1]? with
  | some q => bif !p.Clash && !q.Clash then out.set (out.length - 1) ⟨q.Clash, q.Lines ++ p.Lines, q.Old, q.One, q.Two⟩ else out ++ [p]
  | none => out ++ [p]
def PB (n : Nat) (out : List Part) : Prop := out.length ≤ n ∧ ∀ q ∈ out, q.Lines.length ≤ 1000 * n
theorem PB.mono {n m : Nat} {out : List Part} (h : PB n out) (hm : n ≤ m) : PB m out := ⟨Nat.le_trans h.1 hm, fun q hq => Nat.le_trans (h.2 q hq) (Nat.mul_le_mul_left _ hm)⟩
theorem putP_PB {n : Nat} {out : List Part} {p : Part} (h : PB n out) (hp : p.Lines.length ≤ 1000) : PB (n + 1) (putP out p) := by
  have happ : PB (n + 1) (out ++ [p]) := ⟨by simp; exact h.1, fun q hq => by
    rcases List.mem_append.1 hq with h1 | h1
    · have := h.2 q h1; omega
    · rw [List.mem_singleton] at h1; rw [h1]; omega⟩
  unfold putP
  cases (!p.Clash && p.Lines.length == 0) with
  | true => exact h.mono (by omega)
  | false =>
    rw [cond_false]
    split
    · rename_i q hq
      cases (!p.Clash && !q.Clash) with
      | false => exact happ
      | true =>
        rw [cond_true]
        refine ⟨by rw [List.length_set]; have := h.1; omega, fun r hr => ?_⟩
        rcases List.mem_or_eq_of_mem_set hr with h1 | h1
        · have := h.2 r h1; omega
        · rw [h1]
          have := h.2 q (List.mem_of_getElem? hq)
          simp only [List.length_append]
          omega
    · exact happ
theorem partP_len {o a b : List Str} (ha : a.length ≤ 1000) (hb : b.length ≤ 1000) : (partP o a b).Lines.length ≤ 1000 := by
  unfold partP lnP
  cases (a == o || a == b)
  · cases b == o
    · simp
    · exact ha
  · exact hb
theorem apL {xs ys : List Str} (h : xs.length ≤ 4000000) (h' : ys.length ≤ 1000) : apM xs ys = some (xs ++ ys) := apM_of (by simp [lim]; omega)
theorem l3Part_eq {o a b : List Str} (ho : o.length ≤ 1000) (ha : a.length ≤ 1000) (hb : b.length ≤ 1000) : spec_l3Part o a b = some (partP o a b) := by
  unfold spec_l3Part partP lnP
  simp only [jn, l1Same_eq (show a.length ≤ maxi by unfold maxi; omega), l1Same_eq (show b.length ≤ maxi by unfold maxi; omega), Option.bind_some, apN (show o.length ≤ 1048576 by omega), apN (show a.length ≤ 1048576 by omega), apN (show b.length ≤ 1048576 by omega)]
  cases a == o <;> cases a == b <;> cases b == o <;> rfl
theorem last_ix {n : Nat} (h : n ≤ 4000000) (h0 : 0 < n) : w64 ((n : Int) - 1) = ((n - 1 : Nat) : Int) := by rw [w64_id (by omega) (by omega)]; omega
theorem l3Put_eq {n : Nat} {out : List Part} {p : Part} (h : PB n out) (hn : n ≤ 4000) (hp : p.Lines.length ≤ 1000) : spec_l3Put out p = some (putP out p) := by
  have hl := h.1
  unfold spec_l3Put putP
  have hz : (((p.Lines.length : Int)) == (0 : Int)) = (p.Lines.length == 0) := by
    have : ∀ b c : Bool, (b = true ↔ c = true) → b = c := by decide
    apply this; simp
  simp only [jn, hz, show (⟨p.Clash, p.Lines, p.Old, p.One, p.Two⟩ : Part) = p from rfl]
  have happ : apM out [p] = some (out ++ [p]) := apM_of (by simp [lim]; omega)
  cases hc : p.Clash with
  | true =>
    simp only [Bool.not_true, Bool.false_and, cond_false, happ, Option.bind_some]
    by_cases h0 : 0 < out.length
    · rw [decide_eq_true (by omega), cond_true, List.getElem?_eq_getElem (by omega)]
    · rw [decide_eq_false (by omega), cond_false, List.getElem?_eq_none (by omega)]
  | false =>
    simp only [Bool.not_false, Bool.true_and, cond_true]
    cases hz2 : (p.Lines.length == 0) with
    | true => rfl
    | false =>
      simp only [cond_false]
      by_cases h0 : 0 < out.length
      · obtain ⟨q, hq⟩ : ∃ q, out[out.length - 1]? = some q := ⟨_, List.getElem?_eq_getElem (by omega)⟩
        have hql := h.2 q (List.mem_of_getElem? hq)
        rw [decide_eq_true (by omega), cond_true, last_ix (by omega) h0, gi_of hq, Option.bind_some, hq]
        cases hqc : q.Clash with
        | true => simp [happ, hqc]
        | false =>
          simp only [hqc, Bool.not_false, cond_true, Option.bind_some]
          rw [apL (by omega) hp, Option.bind_some, siM_of (by omega), Option.bind_some]
      · rw [decide_eq_false (by omega), cond_false, List.getElem?_eq_none (by omega), happ]
        rfl
theorem c1_eq {n : Nat} {out : List Part} {l : List Str} (h : PB n out) (hn : n ≤ 4000) (hp : l.length ≤ 1000) : impl_mergeOf_c1 l out = some (putP out (lnP l)) := by
  have hl := h.1
  unfold impl_mergeOf_c1 putP lnP
  have hz : (((l.length : Int)) == (0 : Int)) = (l.length == 0) := by
    have : ∀ b c : Bool, (b = true ↔ c = true) → b = c := by decide
    apply this; simp
  simp only [jn, hz, Bool.not_false, Bool.true_and]
  cases hz2 : (l.length == 0) with
  | true => rfl
  | false =>
    simp only [cond_false]
    have happ : apM out [(⟨false, [], [], [], []⟩ : Part)] = some (out ++ [⟨false, [], [], [], []⟩]) := apM_of (by simp [lim]; omega)
    have hat : (out ++ [(⟨false, [], [], [], []⟩ : Part)])[out.length]? = some ⟨false, [], [], [], []⟩ := by simp
    by_cases h0 : 0 < out.length
    · obtain ⟨q, hq⟩ : ∃ q, out[out.length - 1]? = some q := ⟨_, List.getElem?_eq_getElem (by omega)⟩
      have hql := h.2 q (List.mem_of_getElem? hq)
      rw [last_ix (by omega) h0, decide_eq_false (by omega), cond_false, gi_of hq, Option.bind_some, hq]
      cases hqc : q.Clash with
      | true =>
        have e1 : w64 (((out.length - 1 : Nat) : Int) + 1) = (out.length : Int) := by rw [w64_id (by omega) (by omega)]; omega
        rw [cond_true, happ, Option.bind_some, e1, gi_of hat, Option.bind_some, apL (by simp) hp, Option.bind_some, Option.bind_some, siM_of (by simp), Option.bind_some]
        simp [hqc]
      | false =>
        rw [cond_false, Option.bind_some, apL (by omega) hp, Option.bind_some, Option.bind_some, siM_of (by omega), Option.bind_some]
        simp [hqc]
    · have e0 : w64 ((out.length : Int) - 1) = -1 := by rw [w64_id (by omega) (by omega)]; omega
      have e1 : w64 ((-1 : Int) + 1) = (out.length : Int) := by rw [w64_id (by omega) (by omega)]; omega
      rw [e0, List.getElem?_eq_none (by omega)]
      rw [show decide ((-1 : Int) < 0) = true by decide, cond_true, happ, Option.bind_some, e1, gi_of hat, Option.bind_some, apL (by simp) hp, Option.bind_some, Option.bind_some, siM_of (by simp), Option.bind_some]
      simp
theorem putP_clash (out : List Part) (o a b : List Str) : putP out ⟨true, [], o, a, b⟩ = out ++ [⟨true, [], o, a, b⟩] := by
  unfold putP
  simp only [Bool.not_true, Bool.false_and, cond_false]
  split <;> rfl
def cutI {α : Type} (xs : List α) (l h : Int) : List α := (xs.take h.toNat).drop l.toNat
theorem cutI_len {α : Type} (xs : List α) (l h : Int) : (cutI xs l h).length ≤ xs.length := by unfold cutI; simp; omega
def mergeS (o a b : List Str) (i x y io ia ib : Int) (out : List Part) : List Part :=
  match o[i.toNat]? with
  | some s => putP (putP out (partP (cutI o io i) (cutI a ia x) (cutI b ib y))) (lnP [s])
  | none => putP out (partP (cutI o io i) (cutI a ia x) (cutI b ib y))
def mergeG (o a b : List Str) : Int → List Int → List Int → Int → Int → Int → List Part → List Part
  | i, x :: ma, y :: mb, io, ia, ib, out =>
    bif decide (x < 0) || decide (y < 0) then mergeG o a b (i + 1) ma mb io ia ib out
    else mergeG o a b (i + 1) ma mb (i + 1) (x + 1) (y + 1) (mergeS o a b i x y io ia ib out)
  | _, [], _, _, _, _, out => out
  | _, _ :: _, [], _, _, _, out => out
def mergeF (o a b : List Str) : List Part := mergeG o a b 0 (mt2 o a ++ [(a.length : Int)]) (mt2 o b ++ [(b.length : Int)]) 0 0 0 []
theorem mergeS_PB {o a b : List Str} (ha : a.length ≤ 1000) (hb : b.length ≤ 1000) {i x y io ia ib : Int} {n : Nat} {out : List Part} (h : PB n out) : PB (n + 2) (mergeS o a b i x y io ia ib out) := by
  have h1 := putP_PB h (partP_len (o := cutI o io i) (Nat.le_trans (cutI_len a ia x) ha) (Nat.le_trans (cutI_len b ib y) hb))
  unfold mergeS
  split
  · exact putP_PB h1 (by simp [lnP])
  · exact h1.mono (by omega)
theorem mergeG_PB {o a b : List Str} (ha : a.length ≤ 1000) (hb : b.length ≤ 1000) : ∀ (ma mb : List Int) (i io ia ib : Int) (n : Nat) (out : List Part), PB n out → PB (n + 2 * ma.length) (mergeG o a b i ma mb io ia ib out)
  | [], mb, i, io, ia, ib, n, out, h => by rw [mergeG.eq_def]; exact h.mono (by omega)
  | x :: ma, [], i, io, ia, ib, n, out, h => by rw [mergeG.eq_def]; exact h.mono (by omega)
  | x :: ma, y :: mb, i, io, ia, ib, n, out, h => by
    rw [mergeG]
    cases (decide (x < 0) || decide (y < 0)) with
    | true => exact (mergeG_PB ha hb ma mb _ _ _ _ n out h).mono (by simp; omega)
    | false => exact (mergeG_PB ha hb ma mb _ _ _ _ (n + 2) _ (mergeS_PB ha hb h)).mono (by simp; omega)
theorem drop_ix {l : List Int} {i : Nat} {x : Int} (h : l[i]? = some x) : l.drop i = x :: l.drop (i + 1) := by
  have hi := ix_of h
  rw [List.drop_eq_getElem_cons hi]
  rw [List.getElem?_eq_getElem hi] at h
  rw [Option.some.inj h]
theorem smerge_l1 {o a b : List Str} (ho : o.length ≤ 1000) (ha : a.length ≤ 1000) (hb : b.length ≤ 1000) {ma mb : List Int} (hla : ma.length = o.length + 1) (hlb : mb.length = o.length + 1) :
    ∀ (n i m : Nat) (io ia ib : Int) (out : List Part), i + n = o.length + 1 → n < m → Asc ((a.length : Int) + 1) ia (ma.drop i) → Asc ((b.length : Int) + 1) ib (mb.drop i) → 0 ≤ io → io ≤ i → 0 ≤ ia → 0 ≤ ib → PB (2 * i) out →
      spec_l3Of_l1 o a b ma mb (fun y45 _ _ _ _ => some y45) m out io ia ib (i : Int) = some (mergeG o a b i (ma.drop i) (mb.drop i) io ia ib out)
  | n, i, 0, _, _, _, _, _, hm, _, _, _, _, _, _, _ => by omega
  | 0, i, m + 1, io, ia, ib, out, hi, _, _, _, _, _, _, _, _ => by
    simp only [spec_l3Of_l1]
    rw [decide_eq_false (by omega), cond_false, List.drop_eq_nil_of_le (by omega), mergeG.eq_def]
  | n + 1, i, m + 1, io, ia, ib, out, hi, hm, hA, hB, h0, h1, h2, h3, hP => by
    obtain ⟨x, hx⟩ : ∃ x, ma[i]? = some x := ⟨_, List.getElem?_eq_getElem (by omega)⟩
    obtain ⟨y, hy⟩ : ∃ y, mb[i]? = some y := ⟨_, List.getElem?_eq_getElem (by omega)⟩
    rw [drop_ix hx] at hA ⊢
    rw [drop_ix hy] at hB ⊢
    have ei : w64 ((i : Int) + 1) = ((i + 1 : Nat) : Int) := by rw [w64_id (by omega) (by omega)]; omega
    have ei' : (i : Int) + 1 = ((i + 1 : Nat) : Int) := by omega
    rw [ei'] at ei
    have dn : decide ((-1 : Int) < 0) = true := rfl
    have hstay : ∀ (hA' : Asc ((a.length : Int) + 1) ia (ma.drop (i + 1))) (hB' : Asc ((b.length : Int) + 1) ib (mb.drop (i + 1))), spec_l3Of_l1 o a b ma mb (fun y45 _ _ _ _ => some y45) m out io ia ib ((i + 1 : Nat) : Int) = some (mergeG o a b ((i + 1 : Nat) : Int) (ma.drop (i + 1)) (mb.drop (i + 1)) io ia ib out) :=
      fun hA' hB' => smerge_l1 ho ha hb hla hlb n (i + 1) m io ia ib out (by omega) (by omega) hA' hB' h0 (by omega) h2 h3 (hP.mono (by omega))
    rw [mergeG]
    simp only [spec_l3Of_l1, jn, gi_of hx, gi_of hy, Option.bind_some, ei, ei', hla]
    rw [decide_eq_true (show (i : Int) < ((o.length + 1 : Nat) : Int) by omega), cond_true]
    rcases hA with ⟨rfl, hA⟩ | ⟨ha1, ha2, hA⟩
    · rcases hB with ⟨rfl, hB⟩ | ⟨hb1, hb2, hB⟩
      · simp only [dn, cond_true, Bool.true_or]; exact hstay hA hB
      · simp only [dn, cond_true, Bool.true_or]; exact hstay hA (hB.mono (by omega))
    rcases hB with ⟨rfl, hB⟩ | ⟨hb1, hb2, hB⟩
    · rw [decide_eq_false (show ¬ x < 0 by omega), cond_false]
      simp only [dn, cond_true, Bool.false_or]
      exact hstay (hA.mono (by omega)) hB
    rw [decide_eq_false (show ¬ x < 0 by omega), decide_eq_false (show ¬ y < 0 by omega)]
    simp only [cond_false, Bool.or_false]
    have ex : w64 (x + 1) = x + 1 := w64_id (by omega) (by omega)
    have ey : w64 (y + 1) = y + 1 := w64_id (by omega) (by omega)
    have c1 := cutI_len o io i
    have c2 := cutI_len a ia x
    have c3 := cutI_len b ib y
    have hP1 := putP_PB hP (partP_len (o := cutI o io i) (Nat.le_trans c2 ha) (Nat.le_trans c3 hb))
    have hS := mergeS_PB (o := o) ha hb (i := i) (x := x) (y := y) (io := io) (ia := ia) (ib := ib) hP
    have hfin := smerge_l1 ho ha hb hla hlb n (i + 1) m ((i + 1 : Nat) : Int) (x + 1) (y + 1) (mergeS o a b i x y io ia ib out) (by omega) (by omega) hA hB (by omega) (by omega) (by omega) (by omega) (hS.mono (by omega))
    rw [slM_of h0 h1 (by omega), Option.bind_some, slM_of h2 ha1 (by omega), Option.bind_some, slM_of h3 hb1 (by omega), Option.bind_some,
      show ((o.take ((i : Int)).toNat).drop io.toNat) = cutI o io i from rfl, show ((a.take x.toNat).drop ia.toNat) = cutI a ia x from rfl, show ((b.take y.toNat).drop ib.toNat) = cutI b ib y from rfl,
      l3Part_eq (by omega) (by omega) (by omega), Option.bind_some]
    rw [show (⟨(partP (cutI o io i) (cutI a ia x) (cutI b ib y)).Clash, (partP (cutI o io i) (cutI a ia x) (cutI b ib y)).Lines, (partP (cutI o io i) (cutI a ia x) (cutI b ib y)).Old, (partP (cutI o io i) (cutI a ia x) (cutI b ib y)).One, (partP (cutI o io i) (cutI a ia x) (cutI b ib y)).Two⟩ : Part) = partP (cutI o io i) (cutI a ia x) (cutI b ib y) from rfl,
      l3Put_eq hP (by omega) (partP_len (Nat.le_trans c2 ha) (Nat.le_trans c3 hb)), Option.bind_some]
    by_cases hio : i < o.length
    · have hs : o[i]? = some o[i] := List.getElem?_eq_getElem hio
      rw [decide_eq_true (by omega), cond_true, gi_of hs, Option.bind_some, show (⟨false, [o[i]], [], [], []⟩ : Part) = lnP [o[i]] from rfl, l3Put_eq hP1 (by omega) (by simp [lnP]), Option.bind_some, ex, ey]
      have hm : mergeS o a b i x y io ia ib out = putP (putP out (partP (cutI o io i) (cutI a ia x) (cutI b ib y))) (lnP [o[i]]) := by
        unfold mergeS
        rw [show ((i : Int)).toNat = i by omega, hs]
      rw [← hm]
      exact hfin
    · rw [decide_eq_false (by omega), cond_false, ex, ey]
      have hm : mergeS o a b i x y io ia ib out = putP out (partP (cutI o io i) (cutI a ia x) (cutI b ib y)) := by
        unfold mergeS
        rw [show ((i : Int)).toNat = i by omega, List.getElem?_eq_none (by omega)]
      rw [← hm]
      exact hfin
theorem asc_full (o a : List Str) : Asc ((a.length : Int) + 1) 0 (mt2 o a ++ [(a.length : Int)]) ∧ (mt2 o a ++ [(a.length : Int)]).length = o.length + 1 := by
  have h := mt2_asc o a
  exact ⟨Asc.snoc (by omega) (by omega) h.1, by simp [h.2]⟩
theorem l3Of_eq {o a b : List Str} (ho : o.length ≤ 1000) (ha : a.length ≤ 1000) (hb : b.length ≤ 1000) : spec_l3Of o a b = some (mergeF o a b) := by
  obtain ⟨a1, a2⟩ := asc_full o a
  obtain ⟨b1, b2⟩ := asc_full o b
  have l1 := (mt2_asc o a).2
  have l2 := (mt2_asc o b).2
  unfold spec_l3Of
  rw [smatch_eq ho ha, Option.bind_some, ap1' (by omega), Option.bind_some, smatch_eq ho hb, Option.bind_some, ap1' (by omega), Option.bind_some]
  simp only [jn]
  have := smerge_l1 ho ha hb a2 b2 (o.length + 1) 0 ((((mt2 o a ++ [(a.length : Int)]).length : Int) - 0).toNat + 1) 0 0 0 [] (by omega) (by omega) a1 b1 (by omega) (by omega) (by omega) (by omega) ⟨by simp, by simp⟩
  exact this
end Go.Vm
namespace Go.Vm
open Go Go.Sx
set_option linter.unusedSimpArgs false
set_option linter.unusedVariables false
theorem cut1 {o : List Str} {i : Nat} {s : Str} (h : o[i]? = some s) : slM o (i : Int) ((i + 1 : Nat) : Int) = some [s] := by
  have hi := ix_of h
  rw [slM_of (by omega) (by omega) (by omega)]
  congr 1
  rw [show (((i + 1 : Nat) : Int)).toNat = i + 1 by omega, show ((i : Int)).toNat = i by omega, List.drop_take, show i + 1 - i = 1 by omega, List.drop_eq_getElem_cons hi]
  rw [List.getElem?_eq_getElem hi] at h
  simp [Option.some.inj h]
theorem imerge_l1 {o a b : List Str} (ho : o.length ≤ 1000) (ha : a.length ≤ 1000) (hb : b.length ≤ 1000) {ma mb : List Int} (hla : ma.length = o.length + 1) (hlb : mb.length = o.length + 1) :
    ∀ (n i m : Nat) (io ia ib : Int) (out : List Part), i + n = o.length + 1 → n < m → Asc ((a.length : Int) + 1) ia (ma.drop i) → Asc ((b.length : Int) + 1) ib (mb.drop i) → 0 ≤ io → io ≤ i → 0 ≤ ia → 0 ≤ ib → PB (2 * i) out →
      impl_mergeOf_l1 o a b ma mb (fun _ _ _ _ y49 => some y49) m io ia ib (i : Int) out = some (mergeG o a b i (ma.drop i) (mb.drop i) io ia ib out)
  | n, i, 0, _, _, _, _, _, hm, _, _, _, _, _, _, _ => by omega
  | 0, i, m + 1, io, ia, ib, out, hi, _, _, _, _, _, _, _, _ => by
    simp only [impl_mergeOf_l1]
    rw [decide_eq_false (by omega), cond_false, List.drop_eq_nil_of_le (by omega), mergeG.eq_def]
  | n + 1, i, m + 1, io, ia, ib, out, hi, hm, hA, hB, h0, h1, h2, h3, hP => by
    obtain ⟨x, hx⟩ : ∃ x, ma[i]? = some x := ⟨_, List.getElem?_eq_getElem (by omega)⟩
    obtain ⟨y, hy⟩ : ∃ y, mb[i]? = some y := ⟨_, List.getElem?_eq_getElem (by omega)⟩
    rw [drop_ix hx] at hA ⊢
    rw [drop_ix hy] at hB ⊢
    have ei : w64 ((i : Int) + 1) = ((i + 1 : Nat) : Int) := by rw [w64_id (by omega) (by omega)]; omega
    have ei' : (i : Int) + 1 = ((i + 1 : Nat) : Int) := by omega
    rw [ei'] at ei
    have dn : decide ((-1 : Int) < 0) = true := rfl
    have hstay : ∀ (hA' : Asc ((a.length : Int) + 1) ia (ma.drop (i + 1))) (hB' : Asc ((b.length : Int) + 1) ib (mb.drop (i + 1))), impl_mergeOf_l1 o a b ma mb (fun _ _ _ _ y49 => some y49) m io ia ib ((i + 1 : Nat) : Int) out = some (mergeG o a b ((i + 1 : Nat) : Int) (ma.drop (i + 1)) (mb.drop (i + 1)) io ia ib out) :=
      fun hA' hB' => imerge_l1 ho ha hb hla hlb n (i + 1) m io ia ib out (by omega) (by omega) hA' hB' h0 (by omega) h2 h3 (hP.mono (by omega))
    rw [mergeG]
    simp only [impl_mergeOf_l1, jn, gi_of hx, gi_of hy, Option.bind_some, ei, ei', hla]
    rw [decide_eq_true (show (i : Int) < ((o.length + 1 : Nat) : Int) by omega), cond_true]
    rcases hA with ⟨rfl, hA⟩ | ⟨ha1, ha2, hA⟩
    · rcases hB with ⟨rfl, hB⟩ | ⟨hb1, hb2, hB⟩
      · simp only [dn, cond_true, Bool.true_or]; exact hstay hA hB
      · simp only [dn, cond_true, Bool.true_or]; exact hstay hA (hB.mono (by omega))
    rcases hB with ⟨rfl, hB⟩ | ⟨hb1, hb2, hB⟩
    · rw [decide_eq_false (show ¬ x < 0 by omega), cond_false]
      simp only [dn, cond_true, Bool.false_or]
      exact hstay (hA.mono (by omega)) hB
    rw [decide_eq_false (show ¬ x < 0 by omega), decide_eq_false (show ¬ y < 0 by omega)]
    simp only [cond_false, Bool.or_false]
    have ex : w64 (x + 1) = x + 1 := w64_id (by omega) (by omega)
    have ey : w64 (y + 1) = y + 1 := w64_id (by omega) (by omega)
    have c1 := cutI_len o io i
    have c2 := cutI_len a ia x
    have c3 := cutI_len b ib y
    have hP1 := putP_PB hP (partP_len (o := cutI o io i) (Nat.le_trans c2 ha) (Nat.le_trans c3 hb))
    have hS := mergeS_PB (o := o) ha hb (i := i) (x := x) (y := y) (io := io) (ia := ia) (ib := ib) hP
    have hfin := imerge_l1 ho ha hb hla hlb n (i + 1) m ((i + 1 : Nat) : Int) (x + 1) (y + 1) (mergeS o a b i x y io ia ib out) (by omega) (by omega) hA hB (by omega) (by omega) (by omega) (by omega) (hS.mono (by omega))
    rw [slM_of h0 h1 (by omega), Option.bind_some, slM_of h2 ha1 (by omega), Option.bind_some, slM_of h3 hb1 (by omega), Option.bind_some,
      show ((o.take ((i : Int)).toNat).drop io.toNat) = cutI o io i from rfl, show ((a.take x.toNat).drop ia.toNat) = cutI a ia x from rfl, show ((b.take y.toNat).drop ib.toNat) = cutI b ib y from rfl,
      sEqual_eq (show (cutI a ia x).length ≤ maxi by unfold maxi; omega), Option.bind_some]
    -- what follows, of any out
    have hrest : ∀ q, q = putP out (partP (cutI o io i) (cutI a ia x) (cutI b ib y)) →
        (bif decide ((i : Int) < (o.length : Int)) then (slM o (i : Int) ((i + 1 : Nat) : Int)).bind fun q154 => (impl_mergeOf_c1 q154 q).bind fun z158 => impl_mergeOf_l1 o a b ma mb (fun _ _ _ _ y49 => some y49) m ((i + 1 : Nat) : Int) (w64 (x + 1)) (w64 (y + 1)) ((i + 1 : Nat) : Int) z158
        else impl_mergeOf_l1 o a b ma mb (fun _ _ _ _ y49 => some y49) m ((i + 1 : Nat) : Int) (w64 (x + 1)) (w64 (y + 1)) ((i + 1 : Nat) : Int) q) =
        some (mergeG o a b ((i + 1 : Nat) : Int) (ma.drop (i + 1)) (mb.drop (i + 1)) ((i + 1 : Nat) : Int) (x + 1) (y + 1) (mergeS o a b i x y io ia ib out)) := by
      rintro q rfl
      rw [ex, ey]
      by_cases hio : i < o.length
      · have hs : o[i]? = some o[i] := List.getElem?_eq_getElem hio
        rw [decide_eq_true (by omega), cond_true, cut1 hs, Option.bind_some, c1_eq hP1 (by omega) (by simp), Option.bind_some]
        have hm : mergeS o a b i x y io ia ib out = putP (putP out (partP (cutI o io i) (cutI a ia x) (cutI b ib y))) (lnP [o[i]]) := by
          unfold mergeS
          rw [show ((i : Int)).toNat = i by omega, hs]
        rw [← hm]
        exact hfin
      · rw [decide_eq_false (by omega), cond_false]
        have hm : mergeS o a b i x y io ia ib out = putP out (partP (cutI o io i) (cutI a ia x) (cutI b ib y)) := by
          unfold mergeS
          rw [show ((i : Int)).toNat = i by omega, List.getElem?_eq_none (by omega)]
        rw [← hm]
        exact hfin
    have hclash : apM out [(⟨true, [], cutI o io i, cutI a ia x, cutI b ib y⟩ : Part)] = some (out ++ [⟨true, [], cutI o io i, cutI a ia x, cutI b ib y⟩]) := apM_of (by have := hP.1; simp [lim]; omega)
    cases e1 : cutI a ia x == cutI o io i with
    | true =>
      rw [cond_true, cond_true, c1_eq hP (by omega) (by omega), Option.bind_some]
      exact hrest _ (by simp [partP, e1])
    | false =>
      rw [cond_false, sEqual_eq (show (cutI a ia x).length ≤ maxi by unfold maxi; omega), Option.bind_some]
      cases e2 : cutI a ia x == cutI b ib y with
      | true =>
        rw [cond_true, c1_eq hP (by omega) (by omega), Option.bind_some]
        exact hrest _ (by simp [partP, e1, e2])
      | false =>
        rw [cond_false, sEqual_eq (show (cutI b ib y).length ≤ maxi by unfold maxi; omega), Option.bind_some]
        cases e3 : cutI b ib y == cutI o io i with
        | true =>
          rw [cond_true, c1_eq hP (by omega) (by omega), Option.bind_some]
          exact hrest _ (by simp [partP, e1, e2, e3])
        | false =>
          rw [cond_false, copyText_eq (by omega), Option.bind_some, copyText_eq (by omega), Option.bind_some, copyText_eq (by omega), Option.bind_some, hclash, Option.bind_some]
          exact hrest _ (by simp [partP, e1, e2, e3, putP_clash])
theorem mergeOf_eq {o a b : List Str} (ho : o.length ≤ 1000) (ha : a.length ≤ 1000) (hb : b.length ≤ 1000) : impl_mergeOf o a b = some (mergeF o a b) := by
  obtain ⟨a1, a2⟩ := asc_full o a
  obtain ⟨b1, b2⟩ := asc_full o b
  have l1 := (mt2_asc o a).2
  have l2 := (mt2_asc o b).2
  unfold impl_mergeOf
  rw [imatch_eq ho ha, Option.bind_some, ap1' (by omega), Option.bind_some, imatch_eq ho hb, Option.bind_some, ap1' (by omega), Option.bind_some]
  simp only [jn]
  exact imerge_l1 ho ha hb a2 b2 (o.length + 1) 0 ((((mt2 o a ++ [(a.length : Int)]).length : Int) - 0).toNat + 1) 0 0 0 [] (by omega) (by omega) a1 b1 (by omega) (by omega) (by omega) (by omega) ⟨by simp, by simp⟩
end Go.Vm
namespace Go.Sx
open Go
end Go.Sx
namespace Go.Vm
open Go Go.Sx
set_option linter.unusedSimpArgs false
set_option linter.unusedVariables false
section
variable {o a b : List Str} {Q : Part → Prop}
theorem putP_all {out : List Part} {p : Part} (h3 : ∀ q p : Part, Q q → Q p → q.Clash = false → p.Clash = false → Q ⟨q.Clash, q.Lines ++ p.Lines, q.Old, q.One, q.Two⟩) (h : ∀ q ∈ out, Q q) (hp : Q p) : ∀ q ∈ putP out p, Q q := by
  have happ : ∀ q ∈ out ++ [p], Q q := fun q hq => by
    rcases List.mem_append.1 hq with h1 | h1
    · exact h q h1
    · rw [List.mem_singleton] at h1; rw [h1]; exact hp
  unfold putP
  cases (!p.Clash && p.Lines.length == 0) with
  | true => exact h
  | false =>
    rw [cond_false]
    split
    · rename_i q hq
      cases hc : (!p.Clash && !q.Clash) with
      | false => exact happ
      | true =>
        simp only [Bool.and_eq_true, Bool.not_eq_true'] at hc
        rw [cond_true]
        intro r hr
        rcases List.mem_or_eq_of_mem_set hr with h1 | h1
        · exact h r h1
        · rw [h1]; exact h3 q p (h q (List.mem_of_getElem? hq)) hp hc.2 hc.1
    · exact happ
theorem mergeG_all (h1 : ∀ l h l' h' l'' h'', Q (partP (cutI o l h) (cutI a l' h') (cutI b l'' h''))) (h2 : ∀ s ∈ o, Q (lnP [s]))
    (h3 : ∀ q p : Part, Q q → Q p → q.Clash = false → p.Clash = false → Q ⟨q.Clash, q.Lines ++ p.Lines, q.Old, q.One, q.Two⟩) : ∀ (ma mb : List Int) (i io ia ib : Int) (out : List Part), (∀ q ∈ out, Q q) → ∀ q ∈ mergeG o a b i ma mb io ia ib out, Q q
  | [], mb, i, io, ia, ib, out, h => by rw [mergeG.eq_def]; exact h
  | x :: ma, [], i, io, ia, ib, out, h => by rw [mergeG.eq_def]; exact h
  | x :: ma, y :: mb, i, io, ia, ib, out, h => by
    rw [mergeG]
    cases (decide (x < 0) || decide (y < 0)) with
    | true => exact mergeG_all h1 h2 h3 ma mb _ _ _ _ out h
    | false =>
      refine mergeG_all h1 h2 h3 ma mb _ _ _ _ _ ?_
      have hp := putP_all h3 h (h1 io i ia x ib y)
      unfold mergeS
      split
      · rename_i s hs
        exact putP_all h3 hp (h2 s (List.mem_of_getElem? hs))
      · exact hp
theorem mergeF_all (h1 : ∀ l h l' h' l'' h'', Q (partP (cutI o l h) (cutI a l' h') (cutI b l'' h''))) (h2 : ∀ s ∈ o, Q (lnP [s]))
    (h3 : ∀ q p : Part, Q q → Q p → q.Clash = false → p.Clash = false → Q ⟨q.Clash, q.Lines ++ p.Lines, q.Old, q.One, q.Two⟩) : ∀ q ∈ mergeF o a b, Q q :=
  mergeG_all h1 h2 h3 _ _ _ _ _ _ [] (by simp)
theorem cutI_mem {α : Type} {xs : List α} {l h : Int} {x : α} (hx : x ∈ cutI xs l h) : x ∈ xs := List.mem_of_mem_take (List.mem_of_mem_drop hx)
theorem mergeF_lines {P : Str → Prop} (ho : ∀ s ∈ o, P s) (ha : ∀ s ∈ a, P s) (hb : ∀ s ∈ b, P s) : ∀ q ∈ mergeF o a b, (∀ s ∈ q.Lines, P s) ∧ (∀ s ∈ q.Old, P s) ∧ (∀ s ∈ q.One, P s) ∧ (∀ s ∈ q.Two, P s) ∧ q.Old.length ≤ o.length ∧ q.One.length ≤ a.length ∧ q.Two.length ≤ b.length := by
  refine mergeF_all (fun l h l' h' l'' h'' => ?_) (fun s hs => ?_) (fun q p hq hp _ _ => ?_)
  · have c1 := cutI_len o l h
    have c2 := cutI_len a l' h'
    have c3 := cutI_len b l'' h''
    unfold partP lnP
    cases (cutI a l' h' == cutI o l h || cutI a l' h' == cutI b l'' h'') with
    | true => exact ⟨fun s hs => hb s (cutI_mem hs), by simp, by simp, by simp, by simp, by simp, by simp⟩
    | false =>
      rw [cond_false]
      cases (cutI b l'' h'' == cutI o l h) with
      | true => exact ⟨fun s hs => ha s (cutI_mem hs), by simp, by simp, by simp, by simp, by simp, by simp⟩
      | false => exact ⟨by simp, fun s hs => ho s (cutI_mem hs), fun s hs => ha s (cutI_mem hs), fun s hs => hb s (cutI_mem hs), c1, c2, c3⟩
  · exact ⟨by simpa [lnP] using ho s hs, by simp [lnP], by simp [lnP], by simp [lnP], by simp [lnP], by simp [lnP], by simp [lnP]⟩
  · exact ⟨fun s hs => (List.mem_append.1 hs).elim (hq.1 s) (hp.1 s), hq.2⟩
theorem mergeF_PB2 (ho : o.length ≤ 1000) (ha : a.length ≤ 1000) (hb : b.length ≤ 1000) : PB (2 * (o.length + 1)) (mergeF o a b) := by
  have := mergeG_PB (o := o) ha hb (mt2 o a ++ [(a.length : Int)]) (mt2 o b ++ [(b.length : Int)]) 0 0 0 0 0 [] ⟨by simp, by simp⟩
  rw [(asc_full o a).2] at this
  exact this.mono (by omega)
end
section
variable {xs : List Memo} {o a b : List Str}
def okT (t : List Str) : List Str × Bool := bif textB t then (t, true) else ([], false)
def InvT (i : Nat) (s : List Str) : Prop := s.length ≤ 22000 * i ∧ ∀ x ∈ s, lineB x = true
theorem fit_lines {s : List Str} (h : s.length ≤ 1000000) (hl : ∀ x ∈ s, lineB x = true) : Bk.fit s := ⟨by unfold maxi; omega, fun x hx => by have := lineB_len (hl x hx); show x.length ≤ maxi; unfold maxi; omega⟩
theorem apT {s t : List Str} (h : s.length ≤ 1000000) (h' : t.length ≤ 1000000) : apM s t = some (s ++ t) := apM_of (by simp [lim]; omega)
theorem parts_inv (hto : textB o = true) (hta : textB a = true) (htb : textB b = true) : (mergeF o a b).length ≤ 22 ∧ ∀ p ∈ mergeF o a b, p.Lines.length ≤ 22000 ∧ (∀ x ∈ p.Lines, lineB x = true) ∧ textB p.Old = true ∧ textB p.One = true ∧ textB p.Two = true := by
  have lo := textB_len hto
  have la := textB_len hta
  have lb := textB_len htb
  have hP := mergeF_PB2 (o := o) (a := a) (b := b) (by omega) (by omega) (by omega)
  refine ⟨Nat.le_trans hP.1 (by omega), fun p hp => ?_⟩
  obtain ⟨h1, h2, h3, h4, h5, h6, h7⟩ := mergeF_lines (P := fun s => lineB s = true) (textB_line hto) (textB_line hta) (textB_line htb) p hp
  have hl := hP.2 p hp
  have mk : ∀ t : List Str, t.length ≤ 10 → (∀ s ∈ t, lineB s = true) → textB t = true := fun t h1 h2 => by
    unfold textB
    rw [decide_eq_false (by omega)]
    simp only [Bool.not_false, Bool.true_and, List.all_eq_true]
    exact h2
  exact ⟨by omega, h1, mk _ (by omega) h2, mk _ (by omega) h3, mk _ (by omega) h4⟩
end
end Go.Vm
namespace Go.Vm
open Go Go.Sx
set_option linter.unusedSimpArgs false
set_option linter.unusedVariables false
def LB (n : Nat) (t : List Str) : Prop := t.length ≤ n ∧ ∀ s ∈ t, s.length ≤ 100
theorem LB.fit {n : Nat} {t : List Str} (h : LB n t) (hn : n ≤ 1000000) : Bk.fit t := ⟨by have := h.1; unfold maxi; omega, fun s hs => by have := h.2 s hs; show s.length ≤ maxi; unfold maxi; omega⟩
theorem LB.mono {n m : Nat} {t : List Str} (h : LB n t) (hm : n ≤ m) : LB m t := ⟨Nat.le_trans h.1 hm, h.2⟩
theorem sumB_bound {α : Type} {f : α → Nat} {c : Nat} : ∀ {t : List α}, (∀ s ∈ t, f s ≤ c) → sumB f t ≤ c * t.length
  | [], _ => by simp [sumB]
  | x :: t, h => by
    have h1 := h x (by simp)
    have h2 := sumB_bound (t := t) (fun s hs => h s (by simp [hs]))
    simp only [sumB, List.length_cons, Nat.mul_add, Nat.mul_one]
    omega
theorem LB.bulk {n : Nat} {t : List Str} (h : LB n t) : Bk.bulk t ≤ 101 * n := by
  have h1 : sumB Bk.bulk t ≤ 100 * t.length := sumB_bound (f := fun s : Str => s.length) (c := 100) (fun s hs => h.2 s hs)
  have := h.1
  rw [bulkL]
  omega
section
variable {r : l30Rd} {p : Int}
end
end Go.Vm
namespace Go.Vm
open Go Go.Sx
set_option linter.unusedSimpArgs false
set_option linter.unusedVariables false
section
variable {o a b : List Str} {xs : List Memo}
def clashes (l : List Part) : List Part := l.filter (·.Clash)
end
end Go.Vm
namespace Go.Vm
open Go Go.Sx Go.Proofs
set_option linter.unusedSimpArgs false
set_option linter.unusedVariables false
theorem less_iff (a b : Str) : Op.bytesLess a b = decide (a < b) := bytesLess_eq a b
theorem sle_total (a b : Str) : (decide (a ≤ b) || decide (b ≤ a)) = true := by
  rcases List.le_total a b with h | h <;> simp [h]
theorem sle_trans (a b c : Str) : decide (a ≤ b) = true → decide (b ≤ c) = true → decide (a ≤ c) = true := by
  simp only [decide_eq_true_eq]
  exact List.le_trans
theorem slt_irrefl (a : Str) : ¬ a < a := List.lt_irrefl a
theorem slt_trans {a b c : Str} : a < b → b < c → a < c := List.lt_trans
theorem slt_of_le_ne {a b : Str} (h : a ≤ b) (hn : a ≠ b) : a < b := by
  rcases Decidable.em (a < b) with h1 | h1
  · exact h1
  · exact absurd (List.le_antisymm h (List.not_lt.1 h1)) hn
theorem not_slt {a b : Str} : ¬ a < b ↔ b ≤ a := List.not_lt
def Asd (xs : List Str) : Prop := xs.Pairwise (· < ·)
theorem Asd.ext : ∀ {xs ys : List Str}, Asd xs → Asd ys → (∀ a, a ∈ xs ↔ a ∈ ys) → xs = ys
  | [], [], _, _, _ => rfl
  | [], y :: ys, _, _, h => by have := (h y).2 (by simp); simp at this
  | x :: xs, [], _, _, h => by have := (h x).1 (by simp); simp at this
  | x :: xs, y :: ys, hx, hy, h => by
    have hx' := List.pairwise_cons.1 hx
    have hy' := List.pairwise_cons.1 hy
    have e : x = y := by
      rcases List.mem_cons.1 ((h x).1 (by simp)) with e | hm
      · exact e
      · rcases List.mem_cons.1 ((h y).2 (by simp)) with e | hm2
        · exact e.symm
        · exact absurd (slt_trans (hy'.1 x hm) (hx'.1 y hm2)) (slt_irrefl y)
    subst e
    have ht : ∀ a, a ∈ xs ↔ a ∈ ys := fun a => by
      constructor
      · intro ha
        rcases List.mem_cons.1 ((h a).1 (List.mem_cons_of_mem _ ha)) with e | hm
        · exact absurd (by rw [e] at ha; exact hx'.1 x ha) (slt_irrefl x)
        · exact hm
      · intro ha
        rcases List.mem_cons.1 ((h a).2 (List.mem_cons_of_mem _ ha)) with e | hm
        · exact absurd (by rw [e] at ha; exact hy'.1 x ha) (slt_irrefl x)
        · exact hm
    rw [Asd.ext hx'.2 hy'.2 ht]
theorem sort_pw (l : List Str) : (sortStr l).Pairwise (· ≤ ·) := by
  have := List.pairwise_mergeSort (le := fun x y : Str => decide (x ≤ y)) sle_trans sle_total l
  exact this.imp (by simp)
theorem sort_mem {l : List Str} {a : Str} : a ∈ sortStr l ↔ a ∈ l := List.mem_mergeSort
theorem dedup_mem : ∀ (l : List Str) (p : Option Str) (a : Str), a ∈ dedupF p l ∨ some a = p ↔ a ∈ l ∨ some a = p
  | [], p, a => by simp [dedupF]
  | x :: l, p, a => by
    have ih := dedup_mem l (some x) a
    unfold dedupF
    by_cases hp : p = some x
    · rw [if_pos hp, hp]
      rw [ih]
      simp only [List.mem_cons, Option.some.injEq]
      constructor
      · rintro (h | h)
        · exact .inl (.inr h)
        · exact .inr h
      · rintro ((h | h) | h)
        · exact .inr h
        · exact .inl h
        · exact .inr h
    · rw [if_neg hp]
      simp only [List.mem_cons, Option.some.injEq] at ih ⊢
      constructor
      · rintro ((h | h) | h)
        · exact .inl (.inl h)
        · rcases ih.1 (.inl h) with h2 | h2
          · exact .inl (.inr h2)
          · exact .inl (.inl h2)
        · exact .inr h
      · rintro ((h | h) | h)
        · exact .inl (.inl h)
        · rcases ih.2 (.inl h) with h2 | h2
          · exact .inl (.inr h2)
          · exact .inl (.inl h2)
        · exact .inr h
theorem dedup_mem0 {l : List Str} {a : Str} : a ∈ dedup l ↔ a ∈ l := by
  have := dedup_mem l none a
  simpa [dedup] using this
theorem dedupF_asd : ∀ (l : List Str) (p : Option Str), l.Pairwise (· ≤ ·) → (∀ q, p = some q → ∀ a ∈ l, q ≤ a) → Asd (dedupF p l) ∧ ∀ q, p = some q → ∀ a ∈ dedupF p l, q < a
  | [], p, _, _ => by simp [dedupF, Asd]
  | x :: l, p, h, hp => by
    have h' := List.pairwise_cons.1 h
    obtain ⟨i1, i2⟩ := dedupF_asd l (some x) h'.2 (fun q hq a ha => by cases hq; exact h'.1 a ha)
    unfold dedupF
    by_cases hpx : p = some x
    · rw [if_pos hpx]
      exact ⟨i1, fun q hq a ha => by rw [hpx] at hq; exact i2 q hq a ha⟩
    · rw [if_neg hpx]
      refine ⟨List.pairwise_cons.2 ⟨fun a ha => i2 x rfl a ha, i1⟩, fun q hq a ha => ?_⟩
      have hqx : q < x := slt_of_le_ne (hp q hq x (by simp)) (fun e => hpx (by rw [hq, e]))
      rcases List.mem_cons.1 ha with e | e
      · rw [e]; exact hqx
      · exact slt_trans hqx (i2 x rfl a e)
def insS (xs : List Str) (s : Str) : List Str := dedup (sortStr (xs ++ [s]))
theorem insS_asd (xs : List Str) (s : Str) : Asd (insS xs s) := (dedupF_asd _ none (sort_pw _) (fun q hq => by cases hq)).1
theorem insS_mem {xs : List Str} {s a : Str} : a ∈ insS xs s ↔ a ∈ xs ∨ a = s := by
  unfold insS
  rw [dedup_mem0, sort_mem, List.mem_append, List.mem_singleton]
theorem dedupF_len2 : ∀ (zs : List Str) (p : Option Str), (dedupF p zs).length ≤ zs.length
  | [], p => by simp [dedupF]
  | x :: l, p => by
    have := dedupF_len2 l (some x)
    unfold dedupF
    split <;> simp <;> omega
theorem insS_len (xs : List Str) (s : Str) : (insS xs s).length ≤ xs.length + 1 := by
  have := dedupF_len2 (sortStr (xs ++ [s])) none
  unfold insS dedup
  have h2 : (sortStr (xs ++ [s])).length = (xs ++ [s]).length := List.length_mergeSort _
  rw [h2] at this
  simpa using this
def wordB (c : UInt8) : Bool := (decide (97 ≤ (c.toNat : Int)) && decide ((c.toNat : Int) ≤ 122)) || (decide (48 ≤ (c.toNat : Int)) && decide ((c.toNat : Int) ≤ 57))
def nameB (s : Str) : Bool := (decide (1 ≤ (s.length : Int)) && decide ((s.length : Int) ≤ 6)) && s.all wordB
theorem wordByte_eq (c : UInt8) : impl_wordByte c = some (wordB c) := by
  unfold impl_wordByte wordB
  simp only [jn]
  cases decide (97 ≤ (c.toNat : Int)) <;> cases decide ((c.toNat : Int) ≤ 122) <;> cases decide (48 ≤ (c.toNat : Int)) <;> cases decide ((c.toNat : Int) ≤ 57) <;> rfl
theorem within_eq (a b c : Int) : impl_within a b c = some (decide (b ≤ a) && decide (a ≤ c)) := by
  unfold impl_within
  simp only [jn]
  cases decide (b ≤ a) <;> rfl
theorem l1In_eq (a b c : Int) : spec_l1In a b c = some (decide (b ≤ a) && decide (a ≤ c)) := by
  unfold spec_l1In
  simp only [jn]
  cases decide (b ≤ a) <;> rfl
theorem nameOk_eq {s : Str} (h : s.length ≤ maxi) : impl_nameOk s = some (nameB s) := by
  unfold impl_nameOk nameB
  simp only [jn, fuel0, within_eq, Option.bind_some]
  cases (decide (1 ≤ (s.length : Int)) && decide ((s.length : Int) ≤ 6))
  case false => rfl
  simp only [Bool.not_true, cond_false, Bool.true_and]
  rw [loop_list (α := UInt8) (xs := s) (p := wordB) (r0 := some false) (Z := some true) (f := fun m i => impl_nameOk_l1 s (fun _ _ => some true) m false i) (fun m i x hx => by
    simp only [impl_nameOk_l1, jn, lt_of hx, chM_of hx, cond_true, Option.bind_some, w64_ix (ix_of hx) h, wordByte_eq]
    cases wordB x <;> rfl) (fun m => by simp only [impl_nameOk_l1, end_of, cond_false]) (by omega)]
  cases s.all wordB <;> rfl
theorem lt_not (a b : Int) : decide (a < b) = !decide (b ≤ a) := by
  by_cases h : a < b
  · rw [decide_eq_true h, decide_eq_false (by omega)]; rfl
  · rw [decide_eq_false h, decide_eq_true (by omega)]; rfl
theorem l4Name_eq {s : Str} (h : s.length ≤ maxi) : spec_l4Name s = some (nameB s) := by
  unfold spec_l4Name nameB
  simp only [jn, fuel0, l1In_eq, Option.bind_some]
  rw [loop_list (α := UInt8) (xs := s) (p := wordB) (r0 := some false) (Z := some (decide (1 ≤ (s.length : Int)) && decide ((s.length : Int) ≤ 6))) (f := fun m i => spec_l4Name_l1 s (fun _ _ => some (decide (1 ≤ (s.length : Int)) && decide ((s.length : Int) ≤ 6))) m false i) (fun m i x hx => by
    simp only [spec_l4Name_l1, jn, lt_of hx, chM_of hx, cond_true, Option.bind_some, w64_ix (ix_of hx) h, lt_not, wordB]
    cases decide (97 ≤ (x.toNat : Int)) <;> cases decide ((x.toNat : Int) ≤ 122) <;> cases decide (48 ≤ (x.toNat : Int)) <;> cases decide ((x.toNat : Int) ≤ 57) <;> rfl) (fun m => by simp only [spec_l4Name_l1, end_of, cond_false]) (by omega)]
  cases s.all wordB <;> cases (decide (1 ≤ (s.length : Int)) && decide ((s.length : Int) ≤ 6)) <;> rfl
end Go.Vm
namespace Go.Vm
open Go Go.Sx Go.Proofs
set_option linter.unusedSimpArgs false
set_option linter.unusedVariables false
def ahd (s : Str) : List Str → Nat
  | [] => 0
  | x :: xs => bif Op.bytesLess x s then ahd s xs + 1 else 0
theorem ahd_le (s : Str) : ∀ xs, ahd s xs ≤ xs.length
  | [] => Nat.le_refl _
  | x :: xs => by
    have := ahd_le s xs
    unfold ahd
    cases Op.bytesLess x s
    · simp
    · simp only [cond_true, List.length_cons]; omega
theorem ahd_take (s : Str) : ∀ (xs : List Str) x, x ∈ xs.take (ahd s xs) → x < s
  | [], x, h => by simp at h
  | y :: xs, x, h => by
    unfold ahd at h
    cases hy : Op.bytesLess y s with
    | false => rw [hy] at h; simp at h
    | true =>
      rw [hy, cond_true, List.take_succ_cons] at h
      rcases List.mem_cons.1 h with e | e
      · rw [e]; rw [less_iff] at hy; simpa using hy
      · exact ahd_take s xs x e
theorem ahd_at (s : Str) : ∀ (xs : List Str) x, xs[ahd s xs]? = some x → s ≤ x
  | [], x, h => by simp at h
  | y :: xs, x, h => by
    unfold ahd at h
    cases hy : Op.bytesLess y s with
    | false =>
      rw [hy, cond_false] at h
      have e : y = x := by simpa using h
      rw [← e]
      rw [less_iff] at hy
      exact not_slt.1 (by simpa using hy)
    | true =>
      rw [hy, cond_true] at h
      exact ahd_at s xs x (by simpa using h)
theorem l5_l1 {xs : List Str} {s : Str} (hl : xs.length ≤ 1000000) {K : Int → Option (List Str)} : ∀ (n i m : Nat), i + n = xs.length → n < m → (∀ j, j < i → ∃ x, xs[j]? = some x ∧ x < s) → spec_l5Put_l1 xs s K m (i : Int) = K ((i + ahd s (xs.drop i) : Nat) : Int)
  | n, i, 0, _, hm, _ => by omega
  | 0, i, m + 1, hi, _, _ => by
    simp only [spec_l5Put_l1, jn]
    rw [decide_eq_false (by omega), cond_false, cond_false, List.drop_eq_nil_of_le (by omega)]
    rfl
  | n + 1, i, m + 1, hi, hm, hall => by
    have hlt : i < xs.length := by omega
    have hx : xs[i]? = some xs[i] := List.getElem?_eq_getElem hlt
    simp only [spec_l5Put_l1, jn]
    rw [decide_eq_true (by omega), cond_true, gi_of hx, Option.bind_some, List.drop_eq_getElem_cons hlt]
    unfold ahd
    cases hb : Op.bytesLess xs[i] s with
    | false => rw [cond_false, cond_false]; rfl
    | true =>
      rw [cond_true, cond_true, w64_ix hlt (by unfold maxi; omega)]
      rw [l5_l1 hl n (i + 1) m (by omega) (by omega) (fun j hj => by
        rcases Nat.lt_or_ge j i with h1 | h1
        · exact hall j h1
        · have : j = i := by omega
          subst this
          exact ⟨_, hx, by rw [less_iff] at hb; simpa using hb⟩)]
      congr 2
      omega
theorem l5Put_eq {xs : List Str} {s : Str} (hl : xs.length ≤ 1000000) (ha : Asd xs) : spec_l5Put xs s = some (insS xs s) := by
  unfold spec_l5Put
  simp only [jn]
  have h1 := l5_l1 (s := s) hl (K := fun y1 => bif decide (y1 < (xs.length : Int)) then (gi xs y1).bind fun u52 => bif u52 == s then some xs else (slM xs 0 y1).bind fun q19 => (apM [] q19).bind fun q24 => (apM q24 [s]).bind fun q31 => (slM xs y1 (xs.length : Int)).bind fun q36 => (apM q31 q36).bind fun q41 => some q41
      else bif false then some xs else (slM xs 0 y1).bind fun q19 => (apM [] q19).bind fun q24 => (apM q24 [s]).bind fun q31 => (slM xs y1 (xs.length : Int)).bind fun q36 => (apM q31 q36).bind fun q41 => some q41) xs.length 0 (xs.length + 1) (by omega) (by omega) (fun j hj => by omega)
  have hk := ahd_le s xs
  simp only [Nat.zero_add, List.drop_zero] at h1
  refine h1.trans ?_
  -- the list with s in its place
  have hput : (slM xs 0 ((ahd s xs : Nat) : Int)).bind (fun q19 => (apM [] q19).bind fun q24 => (apM q24 [s]).bind fun q31 => (slM xs ((ahd s xs : Nat) : Int) (xs.length : Int)).bind fun q36 => (apM q31 q36).bind fun q41 => some q41) = some (xs.take (ahd s xs) ++ [s] ++ xs.drop (ahd s xs)) := by
    have hlt : (xs.take (ahd s xs)).length ≤ xs.length := by simp; omega
    rw [slM_take hk, Option.bind_some, apN (by omega), Option.bind_some, ap1 (by omega), Option.bind_some, slM_drop hk, Option.bind_some, apM_of (by simp [lim]; omega), Option.bind_some]
  have hmem : ∀ a, a ∈ xs.take (ahd s xs) ++ [s] ++ xs.drop (ahd s xs) ↔ a ∈ xs ∨ a = s := fun a => by
    have : a ∈ xs ↔ a ∈ xs.take (ahd s xs) ∨ a ∈ xs.drop (ahd s xs) := by rw [← List.mem_append, List.take_append_drop]
    rw [this]
    simp only [List.mem_append, List.mem_singleton]
    constructor
    · rintro ((h | h) | h)
      · exact .inl (.inl h)
      · exact .inr h
      · exact .inl (.inr h)
    · rintro ((h | h) | h)
      · exact .inl (.inl h)
      · exact .inr h
      · exact .inl (.inr h)
  have hfin : (∀ x ∈ xs.drop (ahd s xs), s < x) → some (xs.take (ahd s xs) ++ [s] ++ xs.drop (ahd s xs)) = some (insS xs s) := by
    intro hd
    congr 1
    refine Asd.ext ?_ (insS_asd _ _) (fun a => by rw [hmem, insS_mem])
    have ha' := ha
    rw [← List.take_append_drop (ahd s xs) xs] at ha'
    obtain ⟨p1, p2, p3⟩ := List.pairwise_append.1 ha'
    refine List.pairwise_append.2 ⟨List.pairwise_append.2 ⟨p1, List.pairwise_singleton _ _, fun a h b hb => ?_⟩, p2, fun a h b hb => ?_⟩
    · rw [List.mem_singleton] at hb; rw [hb]; exact ahd_take s xs a h
    · rcases List.mem_append.1 h with h2 | h2
      · exact p3 a h2 b hb
      · rw [List.mem_singleton] at h2; rw [h2]; exact hd b hb
  by_cases hlt : ahd s xs < xs.length
  · have hx : xs[ahd s xs]? = some xs[ahd s xs] := List.getElem?_eq_getElem hlt
    have hge := ahd_at s xs _ hx
    rw [decide_eq_true (by omega), cond_true, gi_of hx, Option.bind_some]
    cases he : xs[ahd s xs] == s with
    | true =>
      have e : xs[ahd s xs] = s := by simpa using he
      rw [cond_true]
      congr 1
      exact Asd.ext ha (insS_asd _ _) (fun a => by
        rw [insS_mem]
        constructor
        · exact .inl
        · rintro (h | h)
          · exact h
          · rw [h, ← e]; exact List.getElem_mem hlt)
    | false =>
      have e : s ≠ xs[ahd s xs] := fun e => by rw [← e] at he; simp at he
      rw [cond_false, hput]
      refine hfin (fun x hx2 => ?_)
      rw [List.drop_eq_getElem_cons hlt] at hx2
      have hs1 : s < xs[ahd s xs] := slt_of_le_ne hge e
      rcases List.mem_cons.1 hx2 with h2 | h2
      · rw [h2]; exact hs1
      · have hp : Asd (xs.drop (ahd s xs)) := List.Pairwise.sublist (List.drop_sublist _ _) ha
        rw [List.drop_eq_getElem_cons hlt] at hp
        exact slt_trans hs1 ((List.pairwise_cons.1 hp).1 x h2)
  · rw [decide_eq_false (by omega), cond_false, cond_false, hput]
    refine hfin (fun x hx2 => ?_)
    rw [List.drop_eq_nil_of_le (by omega)] at hx2
    simp at hx2
end Go.Vm
namespace Go.Vm
open Go Go.Sx
set_option linter.unusedSimpArgs false
set_option linter.unusedVariables false
def RB (n : Nat) (v : Review) : Prop := v.Branch.length ≤ 4 ∧ v.Into.length ≤ 4 ∧ v.By.length ≤ 4 ∧ LB n v.Yes
theorem RB.fit {n : Nat} {v : Review} (h : RB n v) (hn : n ≤ 1000) : Bk.fit v :=
  ⟨by have := h.1; show v.Branch.length ≤ maxi; unfold maxi; omega, by have := h.2.1; show v.Into.length ≤ maxi; unfold maxi; omega, by have := h.2.2.1; show v.By.length ≤ maxi; unfold maxi; omega, h.2.2.2.fit (by omega)⟩
end Go.Vm
namespace Go.Vm
open Go Go.Sx
set_option linter.unusedSimpArgs false
set_option linter.unusedVariables false
def curS (c : UInt8) : Str → Str → List Str
  | w, [] => [w]
  | w, x :: r => bif x == c then w :: curS c [] r else curS c (w ++ [x]) r
def curN (c : UInt8) : Nat → Str → Str → List Str
  | _, w, [] => [w]
  | 0, w, x :: r => [w ++ x :: r]
  | n + 1, w, x :: r => bif x == c then w :: curN c n [] r else curN c (n + 1) (w ++ [x]) r
theorem curS_len (c : UInt8) : ∀ (r w : Str), 1 ≤ (curS c w r).length
  | [], w => by simp [curS]
  | x :: r, w => by
    unfold curS
    cases x == c
    · exact curS_len c r _
    · simp
theorem curN_zero (c : UInt8) (w r : Str) : curN c 0 w r = [w ++ r] := by
  cases r <;> simp [curN]
theorem curN_same (c : UInt8) : ∀ (r : Str) (n : Nat) (w : Str), (curS c w r).length ≤ n + 1 → curN c n w r = curS c w r
  | [], n, w, h => by cases n <;> simp [curN, curS]
  | x :: r, 0, w, h => by
    unfold curS at h ⊢
    cases hx : x == c with
    | true =>
      rw [hx, cond_true] at h
      have := curS_len c r []
      rw [List.length_cons] at h
      omega
    | false =>
      rw [hx, cond_false] at h
      have ih := curN_same c r 0 (w ++ [x]) h
      rw [cond_false, ← ih, curN_zero, curN_zero]
      simp
  | x :: r, n + 1, w, h => by
    unfold curS at h ⊢
    unfold curN
    cases hx : x == c with
    | true =>
      rw [hx, cond_true, List.length_cons] at h
      rw [cond_true, cond_true, curN_same c r n [] (by omega)]
    | false =>
      rw [hx, cond_false] at h
      rw [cond_false, cond_false, curN_same c r (n + 1) _ h]
theorem curN_full (c : UInt8) : ∀ (r : Str) (n : Nat) (w : Str), n + 1 ≤ (curS c w r).length → (curN c n w r).length = n + 1
  | [], n, w, h => by
    simp [curS] at h
    subst h
    simp [curN]
  | x :: r, 0, w, h => by simp [curN]
  | x :: r, n + 1, w, h => by
    unfold curS at h
    unfold curN
    cases hx : x == c with
    | true =>
      rw [hx, cond_true, List.length_cons] at h
      rw [cond_true, List.length_cons, curN_full c r n [] (by omega)]
    | false =>
      rw [hx, cond_false] at h
      rw [cond_false, curN_full c r (n + 1) _ h]
theorem index_not {c : UInt8} {w : Str} (h : c ∉ w) : Lib.index w [c] = -1 := Lib.index_none fun j hj => by
  cases ho : Lib.occAt w [c] j with
  | false => rfl
  | true => exact absurd (List.mem_of_getElem? (Lib.occAt_head rfl ho)) h
theorem index_at {c : UInt8} {w r : Str} (h : c ∉ w) : Lib.index (w ++ c :: r) [c] = ((w.length : Nat) : Int) := Lib.index_first (by simp) (by simp [Lib.occAt, List.isPrefixOf]) fun j hj => by
  cases ho : Lib.occAt (w ++ c :: r) [c] j with
  | false => rfl
  | true =>
    have := Lib.occAt_head rfl ho
    rw [List.getElem?_append_left hj] at this
    exact absurd (List.mem_of_getElem? this) h
theorem split_cur (c : UInt8) : ∀ (r w : Str), c ∉ w → Lib.split (w ++ r) [c] = curS c w r
  | [], w, h => by
    unfold Lib.split curS
    rw [List.append_nil, Lib.count_miss (index_not h)]
    rfl
  | x :: r, w, h => by
    unfold curS
    cases hx : x == c with
    | true =>
      have e : x = c := by simpa using hx
      subst e
      have hi := index_at (r := r) h
      rw [cond_true]
      have ih := split_cur x r [] (by simp)
      unfold Lib.split at ih ⊢
      have hd : (w ++ x :: r).drop (w.length + 1) = r := by
        rw [show w ++ x :: r = (w ++ [x]) ++ r by simp, List.drop_left' (by simp)]
      have hc : Lib.count (w ++ x :: r) [x] = Lib.count r [x] + 1 := by
        rw [Lib.count_hit (by simp) hi]
        show 1 + Lib.count ((w ++ x :: r).drop (w.length + 1)) [x] = _
        rw [hd]
        omega
      rw [hc]
      unfold Lib.splitK
      rw [if_neg (by rw [hi]; simp), hi]
      have e1 : (w ++ x :: r).take (((w.length : Nat) : Int).toNat + 0) = w := by simp
      have e2 : (w ++ x :: r).drop (((w.length : Nat) : Int).toNat + [x].length) = r := hd
      rw [e1, e2]
      simp only [List.nil_append] at ih
      rw [ih]
    | false =>
      have hne : x ≠ c := by simpa using hx
      rw [cond_false, show w ++ x :: r = (w ++ [x]) ++ r by simp]
      exact split_cur c r (w ++ [x]) (by
        rw [List.mem_append, List.mem_singleton]
        rintro (h1 | h1)
        · exact h h1
        · exact hne h1.symm)
theorem split_eq (c : UInt8) (s : Str) : Lib.split s [c] = curS c [] s := split_cur c s [] (by simp)
theorem byte_eq (u c : UInt8) : (((UInt8.toNat u : Nat) : Int) == ((UInt8.toNat c : Nat) : Int)) = (u == c) := by
  have : ∀ b c : Bool, (b = true ↔ c = true) → b = c := by decide
  apply this
  rw [beq_iff_eq, beq_iff_eq, ← UInt8.toNat_inj]
  omega
theorem cut_l1 {s : Str} {c : UInt8} {most : Nat} (hs : s.length ≤ 1048576) (hm : most ≤ 1000) : ∀ (n : Nat) (out : List Str) (from_ i m : Nat), i + n = s.length → n < m → from_ ≤ i → out.length ≤ most →
    spec_l1Cut_l1 s c (most : Int) (fun y3 y6 y7 => (slM s y6 (s.length : Int)).bind fun q38 => (apM y3 [q38]).bind fun q43 => some q43) m out (from_ : Int) (i : Int) = some (out ++ curN c (most - out.length) ((s.take i).drop from_) (s.drop i))
  | n, out, f, i, 0, _, hm, _, _ => by omega
  | n, out, f, i, m + 1, hi, hn, hf, ho => by
    have hdone : (slM s (f : Int) (s.length : Int)).bind (fun q38 => (apM out [q38]).bind fun q43 => some q43) = some (out ++ [s.drop f]) := by
      rw [slM_drop (by omega), Option.bind_some, ap1 (by omega), Option.bind_some]
    have hw : (s.take i).drop f ++ s.drop i = s.drop f := by
      rw [← List.drop_append_of_le_length (by simp; omega), List.take_append_drop]
    simp only [spec_l1Cut_l1, jn]
    by_cases h1 : (i : Int) < (s.length : Int)
    case neg =>
      rw [decide_eq_false h1, cond_false, cond_false, hdone]
      have : s.drop i = [] := List.drop_eq_nil_of_le (by omega)
      rw [this] at hw ⊢
      rw [List.append_nil] at hw
      rw [hw]
      cases most - out.length <;> simp [curN]
    rw [decide_eq_true h1, cond_true]
    have hlt : i < s.length := by omega
    have hx : s[i]? = some s[i] := List.getElem?_eq_getElem hlt
    by_cases h2 : (out.length : Int) < (most : Int)
    case neg =>
      rw [decide_eq_false h2, cond_false, hdone]
      have : most - out.length = 0 := by omega
      rw [this, curN_zero, hw]
    obtain ⟨n, rfl⟩ : ∃ k, n = k + 1 := ⟨n - 1, by omega⟩
    obtain ⟨k, hk⟩ : ∃ k, most - out.length = k + 1 := ⟨most - out.length - 1, by omega⟩
    rw [decide_eq_true h2, cond_true, chM_of hx, Option.bind_some, byte_eq, hk, List.drop_eq_getElem_cons hlt]
    unfold curN
    cases hb : s[i] == c with
    | true =>
      rw [cond_true, cond_true, slM_of (by omega) (by omega) (by omega), Option.bind_some, ap1 (by omega), Option.bind_some, w64_ix hlt (by unfold maxi; omega), cut_l1 hs hm n _ (i + 1) (i + 1) m (by omega) (by omega) (by omega) (by simp; omega)]
      have e1 : most - (out ++ [((s.take ((i : Nat) : Int).toNat)).drop ((f : Nat) : Int).toNat]).length = k := by simp; omega
      have e2 : (s.take (i + 1)).drop (i + 1) = [] := List.drop_eq_nil_of_le (by simp; omega)
      rw [e1, e2]
      simp
    | false =>
      rw [cond_false, cond_false, w64_ix hlt (by unfold maxi; omega), cut_l1 hs hm n _ f (i + 1) m (by omega) (by omega) (by omega) ho, hk]
      have e2 : (s.take (i + 1)).drop f = (s.take i).drop f ++ [s[i]] := by
        rw [List.take_add_one, hx]
        rw [List.drop_append_of_le_length (by simp; omega)]
        rfl
      rw [e2]
theorem l1Cut_eq {s : Str} {c : UInt8} {most : Nat} (hs : s.length ≤ 1048576) (hm : most ≤ 1000) : spec_l1Cut s c (most : Int) = some (curN c most [] s) := by
  unfold spec_l1Cut
  simp only [jn]
  have := cut_l1 (c := c) (most := most) hs hm s.length [] 0 0 (s.length + 1) (by omega) (by omega) (Nat.le_refl _) (by simp)
  simpa using this
def pathB (s : Str) : Bool := decide ((curS 47 [] s).length ≤ 3) && (curS 47 [] s).all nameB
theorem curS_fit (c : UInt8) : ∀ (r w : Str), ∀ p ∈ curS c w r, p.length ≤ w.length + r.length
  | [], w, p, h => by simp [curS] at h; rw [h]; omega
  | x :: r, w, p, h => by
    unfold curS at h
    cases hx : x == c with
    | true =>
      rw [hx, cond_true] at h
      rcases List.mem_cons.1 h with e | e
      · rw [e]; omega
      · have := curS_fit c r [] p e
        simp at this ⊢
        omega
    | false =>
      rw [hx, cond_false] at h
      have := curS_fit c r (w ++ [x]) p h
      simp at this ⊢
      omega
theorem curS_long (c : UInt8) : ∀ (r w : Str), (curS c w r).length ≤ r.length + 1
  | [], w => by simp [curS]
  | x :: r, w => by
    unfold curS
    cases x == c
    · have := curS_long c r (w ++ [x]); simp at this ⊢; omega
    · have := curS_long c r []; simp at this ⊢; omega
theorem PathOk_eq {s : Str} (h : s.length ≤ 1048576) : impl_PathOk s = some (pathB s) := by
  unfold impl_PathOk strings_Split pathB
  rw [if_pos ⟨by omega, by simp⟩, Option.bind_some, split_eq]
  have hl := curS_long 47 s []
  by_cases h3 : (3 : Int) < ((curS 47 [] s).length : Int)
  · rw [decide_eq_true h3, cond_true, decide_eq_false (by omega)]; rfl
  rw [decide_eq_false h3, cond_false, decide_eq_true (by omega), Bool.true_and]
  simp only [jn, fuel0]
  rw [loop_list (α := Str) (xs := curS 47 [] s) (p := nameB) (r0 := some false) (Z := some true) (f := fun m i => impl_PathOk_l1 (curS 47 [] s) (fun _ _ => some true) m false i) (fun m i x hx => by
    have hf := curS_fit 47 s [] x (List.mem_of_getElem? hx)
    simp only [impl_PathOk_l1, lt_of hx, gi_of hx, cond_true, Option.bind_some, w64_ix (ix_of hx) (show (curS 47 [] s).length ≤ maxi by unfold maxi; omega), nameOk_eq (show x.length ≤ maxi by unfold maxi; simp at hf; omega)]
    cases nameB x <;> rfl) (fun m => by simp only [impl_PathOk_l1, end_of, cond_false]) (by omega)]
  cases (curS 47 [] s).all nameB <;> rfl
theorem curN_fit (c : UInt8) : ∀ (r : Str) (n : Nat) (w : Str), ∀ p ∈ curN c n w r, p.length ≤ w.length + r.length
  | [], n, w, p, h => by cases n <;> simp [curN] at h <;> rw [h] <;> omega
  | x :: r, 0, w, p, h => by simp [curN] at h; rw [h]; simp
  | x :: r, n + 1, w, p, h => by
    unfold curN at h
    cases hx : x == c with
    | true =>
      rw [hx, cond_true] at h
      rcases List.mem_cons.1 h with e | e
      · rw [e]; omega
      · have := curN_fit c r n [] p e
        simp at this ⊢
        omega
    | false =>
      rw [hx, cond_false] at h
      have := curN_fit c r (n + 1) (w ++ [x]) p h
      simp at this ⊢
      omega
theorem l4Path_eq {s : Str} (h : s.length ≤ 1048576) : spec_l4Path s = some (pathB s) := by
  unfold spec_l4Path pathB
  have e47 : (UInt8.ofNatLT 47 (by decide) : UInt8) = 47 := by decide
  have hc := l1Cut_eq (c := UInt8.ofNatLT 47 (by decide)) (most := 3) h (by omega)
  rw [show (3 : Int) = ((3 : Nat) : Int) from rfl, hc, Option.bind_some, e47]
  simp only [jn, fuel0]
  have hlen : (curN 47 3 [] s).length ≤ maxi := by
    rcases Nat.lt_or_ge (curS 47 [] s).length 4 with h1 | h1
    · rw [curN_same 47 s 3 [] (by omega)]; unfold maxi; omega
    · rw [curN_full 47 s 3 [] h1]; unfold maxi; omega
  rw [loop_list (α := Str) (xs := curN 47 3 [] s) (p := nameB) (r0 := some false) (Z := some (decide (((curN 47 3 [] s).length : Int) ≤ ((3 : Nat) : Int)))) (f := fun m i => spec_l4Path_l1 (curN 47 3 [] s) (fun _ _ => some (decide (((curN 47 3 [] s).length : Int) ≤ ((3 : Nat) : Int)))) m false i) (fun m i x hx => by
    have hf := curN_fit 47 s 3 [] x (List.mem_of_getElem? hx)
    simp only [spec_l4Path_l1, lt_of hx, gi_of hx, cond_true, Option.bind_some, w64_ix (ix_of hx) hlen, l4Name_eq (show x.length ≤ maxi by unfold maxi; simp at hf; omega)]
    cases nameB x <;> rfl) (fun m => by simp only [spec_l4Path_l1, end_of, cond_false]) (by omega)]
  rcases Nat.lt_or_ge (curS 47 [] s).length 4 with h1 | h1
  · rw [curN_same 47 s 3 [] (by omega), decide_eq_true (show ((curS 47 [] s).length : Int) ≤ ((3 : Nat) : Int) by omega), decide_eq_true (show (curS 47 [] s).length ≤ 3 by omega)]
    cases (curS 47 [] s).all nameB <;> rfl
  · rw [curN_full 47 s 3 [] h1, decide_eq_false (show ¬ (curS 47 [] s).length ≤ 3 by omega)]
    cases (curN 47 3 [] s).all nameB <;> rfl
end Go.Vm
namespace Go.Vm
open Go Go.Sx
set_option linter.unusedSimpArgs false
set_option linter.unusedVariables false
theorem le_less2 (a b : Str) : (Op.bytesLess a b || a == b) = !Op.bytesLess b a := by
  rw [less_iff, less_iff]
  by_cases h : b < a
  · have h1 : ¬ a < b := fun h2 => slt_irrefl a (slt_trans h2 h)
    have h2 : ¬ a = b := fun e => by rw [e] at h; exact slt_irrefl b h
    simp [h, h1, h2]
  · by_cases e : a = b
    · simp [h, e]
    · have := slt_of_le_ne (not_slt.1 h) e
      simp [h, this]
def OB (xs : List Owner) : Prop := xs.length ≤ 1048576 ∧ ∀ x ∈ xs, x.Path.length ≤ 1048576 ∧ x.Who.length ≤ 1048576
theorem OB.of {xs : List Owner} (h : Bk.bulk xs ≤ 1048576) : OB xs := ⟨bulk_len h, fun x hx => by
  have h1 : Bk.bulk x ≤ 1048576 := bulk_mem h hx
  have h2 : Bk.bulk x = x.Path.length + x.Who.length := rfl
  omega⟩
theorem OB.at_ {xs : List Owner} (h : OB xs) {i : Nat} {x : Owner} (hx : xs[i]? = some x) : x.Path.length ≤ 1048576 ∧ x.Who.length ≤ 1048576 := h.2 x (List.mem_of_getElem? hx)
def belowB (d p : Str) : Bool := (d ++ [47]).isPrefixOf p
theorem PathIn_eq {d p : Str} (hd : d.length ≤ 1048576) (hp : p.length ≤ 1048576) (h1 : pathB d = true) (h2 : pathB p = true) : impl_PathIn d p = some (belowB d p) := by
  unfold impl_PathIn strings_HasPrefix belowB
  have hs : saM d ([47] : Str) = some (d ++ [47]) := by
    unfold saM
    rw [if_pos]
    simp only [List.length_cons, List.length_nil, lim]
    omega
  simp only [jn, PathOk_eq hd, PathOk_eq hp, h1, h2, Option.bind_some, cond_true, hs, Lib.hasPrefix]
theorem prefix_snoc {c : UInt8} : ∀ {d p : Str}, (d ++ [c]).isPrefixOf p = (p.take d.length == d && p[d.length]? == some c)
  | [], [] => by simp
  | [], x :: p => by
    by_cases e : c = x
    · subst e; simp [List.isPrefixOf]
    · have e1 : (c == x) = false := beq_false_of_ne e
      have e2 : ((some x : Option UInt8) == some c) = false := beq_false_of_ne (fun h => e (Option.some.inj h).symm)
      simp only [List.nil_append, List.isPrefixOf, e1, List.length_nil, List.take_zero, List.getElem?_cons_zero, e2, Bool.false_and, Bool.and_false]
  | y :: d, [] => by simp [List.isPrefixOf]
  | y :: d, x :: p => by
    have ih := prefix_snoc (c := c) (d := d) (p := p)
    simp only [List.cons_append, List.isPrefixOf, List.length_cons, List.take_succ_cons, List.getElem?_cons_succ, ih]
    by_cases e : y = x
    · subst e
      simp
    · have e1 : (y == x) = false := beq_false_of_ne e
      have e2 : (x == y) = false := beq_false_of_ne (fun h => e h.symm)
      simp [e1, e2]
theorem l4In_eq {d p : Str} (hp : p.length ≤ 1048576) : spec_l4In d p = some (belowB d p) := by
  unfold spec_l4In belowB
  simp only [jn]
  rw [prefix_snoc]
  by_cases hl : (d.length : Int) < (p.length : Int)
  · have hlt : d.length < p.length := by omega
    have hx : p[d.length]? = some p[d.length] := List.getElem?_eq_getElem hlt
    rw [decide_eq_true hl, cond_true, slM_take (by omega), Option.bind_some, hx]
    cases p.take d.length == d with
    | false => rfl
    | true =>
      rw [cond_true, chM_of hx, Option.bind_some, Bool.true_and]
      congr 1
      have := (show ∀ u : UInt8, (((UInt8.toNat u : Nat) : Int) == (47 : Int)) = (some u == some (47 : UInt8)) from fun u => by
        have hb := byte_eq u 47
        rw [show (((UInt8.toNat (47 : UInt8) : Nat) : Int)) = 47 from rfl] at hb
        rw [hb]
        simp)
      exact this _
  · rw [decide_eq_false hl, cond_false, List.getElem?_eq_none (by omega)]
    simp
end Go.Vm
namespace Go.Vm
open Go Go.Sx
set_option linter.unusedSimpArgs false
set_option linter.unusedVariables false
structure OpFit (o : Op) : Prop where
  fit : Bk.fit o
  path : o.Path.length ≤ 1048576
  to : o.To.length ≤ 1048576
  text : Bk.bulk o.Text ≤ 1048576
theorem OpFit.of {o : Op} (h : Bk.fit o) (hb : Bk.bulk o ≤ 1048576) : OpFit o := by
  have e : Bk.bulk o = Bk.bulk o.Kind + (Bk.bulk o.Branch + (Bk.bulk o.Who + (Bk.bulk o.Path + (Bk.bulk o.To + (Bk.bulk o.At + Bk.bulk o.Text))))) := rfl
  have e1 : Bk.bulk o.Path = o.Path.length := rfl
  have e2 : Bk.bulk o.To = o.To.length := rfl
  exact ⟨h, by omega, by omega, by omega⟩
end Go.Vm
namespace Go.Vm
open Go Go.Sx
set_option linter.unusedSimpArgs false
set_option linter.unusedVariables false
theorem bool_ext : ∀ {b c : Bool}, (b = true ↔ c = true) → b = c := by decide
theorem prev_ix {i n : Nat} (hi : i < n) (hn : n ≤ maxi) (h0 : (0 : Int) < (i : Int)) : w64 ((i : Int) - 1) = ((i - 1 : Nat) : Int) := by
  rw [w64_id (by omega) (by unfold maxi at hn; omega)]; omega
structure FB (f : File) : Prop where
  path : f.Path.length ≤ 1048576
  len : f.Text.length ≤ 1048576
  text : Bk.fit f.Text
def TB (t : List File) : Prop := t.length ≤ 1048576 ∧ ∀ f ∈ t, FB f
theorem TB.at_ {t : List File} (h : TB t) {i : Nat} {f : File} (hf : t[i]? = some f) : FB f := h.2 f (List.mem_of_getElem? hf)
theorem TB.maxi {t : List File} (h : TB t) : t.length ≤ maxi := to_maxi h.1
theorem TB.nil : TB [] := ⟨by simp, fun f hf => by simp at hf⟩
def noFile : File := ⟨[], []⟩
theorem getF_of {t : List File} {i : Nat} {f : File} (h : t[i]? = some f) : t.getD i noFile = f := by simp [List.getD, h]
theorem prevF_at {t : List File} {i : Nat} {f : File} (h : t[i]? = some f) (hl : t.length ≤ maxi) (h0 : (0 : Int) < (i : Int)) : ∃ y, gi t (w64 ((i : Int) - 1)) = some y ∧ t.getD (i - 1) noFile = y := by
  have hi := ix_of h
  have hx : t[i - 1]? = some t[i - 1] := List.getElem?_eq_getElem (by omega)
  exact ⟨_, by rw [prev_ix hi hl h0]; exact gi_of hx, getF_of hx⟩
def fileB (t : List File) (i : Nat) : Bool := pathB (t.getD i noFile).Path && (textB (t.getD i noFile).Text && (bif decide (0 < (i : Int)) then Op.bytesLess (t.getD (i - 1) noFile).Path (t.getD i noFile).Path else true))
def sTree (t : List File) (i : Nat) : Bool := fileB t i && t.all fun f => !belowB (t.getD i noFile).Path f.Path
def iTree (t : List File) (i : Nat) : Bool := fileB t i && (t.take i).all fun f => !(pathB f.Path && (pathB (t.getD i noFile).Path && belowB f.Path (t.getD i noFile).Path))
def treeB (t : List File) : Bool := decide ((t.length : Int) ≤ 8) && allN (sTree t) 0 t.length
theorem lt_more (d : Str) (x : UInt8) (r : Str) : d < d ++ x :: r := by
  induction d with
  | nil => exact List.nil_lt_cons _ _
  | cons a d ih => exact List.cons_lt_cons_self.2 ih
theorem below_lt {d p : Str} (h : belowB d p = true) : d < p := by
  unfold belowB at h
  obtain ⟨t, rfl⟩ := List.isPrefixOf_iff_prefix.1 h
  rw [List.append_assoc]
  exact lt_more d 47 t
theorem files_asc {t : List File} {n : Nat} (h : ∀ i, i < n → fileB t i = true) {i j : Nat} (hij : i < j) (hj : j < n) : (t.getD i noFile).Path < (t.getD j noFile).Path := by
  induction j with
  | zero => omega
  | succ j ih =>
    have h1 := h (j + 1) hj
    unfold fileB at h1
    rw [decide_eq_true (by omega), cond_true, Nat.add_sub_cancel] at h1
    simp only [Bool.and_eq_true, less_iff, decide_eq_true_eq] at h1
    rcases Nat.lt_or_ge i j with h2 | h2
    · exact slt_trans (ih h2 (by omega)) h1.2.2
    · have : i = j := by omega
      subst this
      exact h1.2.2
theorem tree_sides (t : List File) : allN (iTree t) 0 t.length = allN (sTree t) 0 t.length := by
  apply bool_ext
  rw [allN_iff, allN_iff]
  constructor
  · intro h
    have hf : ∀ i, i < t.length → fileB t i = true := fun i hi => by
      have := h i (Nat.zero_le _) (by omega)
      unfold iTree at this
      simp only [Bool.and_eq_true] at this
      exact this.1
    intro i _ hi
    have hi' : i < t.length := by omega
    unfold sTree
    rw [hf i hi', Bool.true_and, List.all_eq_true]
    intro f hm
    obtain ⟨k, hk⟩ := List.mem_iff_getElem?.1 hm
    have hkl := ix_of hk
    cases hb : belowB (t.getD i noFile).Path f.Path with
    | false => rfl
    | true =>
      exfalso
      have hlt := below_lt hb
      rcases Nat.lt_trichotomy i k with h1 | h1 | h1
      · have := h k (Nat.zero_le _) (by omega)
        unfold iTree at this
        simp only [Bool.and_eq_true, List.all_eq_true] at this
        have h2 := this.2 t[i] (List.mem_of_getElem? (i := i) (by rw [List.getElem?_take_of_lt h1]; exact List.getElem?_eq_getElem hi'))
        have p1 := hf i hi'
        have p2 := hf k hkl
        unfold fileB at p1 p2
        simp only [Bool.and_eq_true] at p1 p2
        rw [getF_of hk] at h2 p2
        rw [getF_of (List.getElem?_eq_getElem hi')] at hb p1
        rw [p1.1, p2.1, hb] at h2
        simp at h2
      · subst h1
        rw [getF_of hk] at hlt
        exact slt_irrefl _ hlt
      · have := files_asc hf h1 hi'
        rw [getF_of hk] at this
        exact slt_irrefl _ (slt_trans hlt this)
  · intro h i _ hi
    have hi' : i < t.length := by omega
    have h1 := h i (Nat.zero_le _) hi
    unfold sTree at h1
    simp only [Bool.and_eq_true] at h1
    unfold iTree
    rw [h1.1, Bool.true_and, List.all_eq_true]
    intro f hm
    obtain ⟨k, hk⟩ := List.mem_iff_getElem?.1 hm
    obtain ⟨hk', hki⟩ := show t[k]? = some f ∧ k < i from by
      rw [List.getElem?_take] at hk
      split at hk
      · exact ⟨hk, by assumption⟩
      · cases hk
    have h2 := h k (Nat.zero_le _) (by omega)
    unfold sTree at h2
    simp only [Bool.and_eq_true, List.all_eq_true] at h2
    have h3 := h2.2 t[i] (List.getElem_mem hi')
    rw [getF_of hk'] at h3
    rw [getF_of (List.getElem?_eq_getElem hi')]
    have h4 : belowB f.Path t[i].Path = false := by simpa using h3
    rw [h4]
    simp
theorem l4Ok_eq {t : List File} (h : TB t) : spec_l4Ok t = some (treeB t) := by
  have hm := h.maxi
  unfold spec_l4Ok treeB
  simp only [jn, fuel0]
  rw [loop_all (n := t.length) (g := sTree t) (r0 := some false) (Z := some (decide ((t.length : Int) ≤ 8))) (f := fun m i => spec_l4Ok_l1 t (fun _ _ => some (decide ((t.length : Int) ≤ 8))) m false i) (fun m i hi => by
    have hx : t[i]? = some t[i] := List.getElem?_eq_getElem hi
    have fx := h.at_ hx
    simp only [spec_l4Ok_l1, jn, lt_of hx, gi_of hx, cond_true, Option.bind_some, w64_ix hi hm, l4Path_eq fx.path, l1Ok_eq fx.text]
    unfold sTree fileB
    rw [getF_of hx]
    have hin : ∀ K : Bool → Int → Option Bool, spec_l4Ok_l2 t (i : Int) K (t.length + 1) false 0 = bif t.all (fun f => !belowB t[i].Path f.Path) then K false (t.length : Int) else some false := fun K => by
      rw [loop_list (α := File) (xs := t) (p := fun f => !belowB t[i].Path f.Path) (r0 := some false) (Z := K false (t.length : Int)) (f := fun m k => spec_l4Ok_l2 t (i : Int) K m false k) (fun m k f hf => by
        simp only [spec_l4Ok_l2, lt_of hf, gi_of hf, gi_of hx, cond_true, Option.bind_some, w64_ix (ix_of hf) hm, l4In_eq (h.at_ hf).path]
        cases belowB t[i].Path f.Path <;> rfl) (fun m => by simp only [spec_l4Ok_l2, end_of, cond_false]) (by omega)]
    cases pathB t[i].Path
    · rfl
    cases textB t[i].Text
    · rfl
    simp only [Bool.not_true, cond_false, Bool.true_and]
    by_cases h0 : (0 : Int) < (i : Int)
    · obtain ⟨y, hy, ey⟩ := prevF_at hx hm h0
      rw [hy, ey, decide_eq_true h0]
      simp only [Option.bind_some, le_less2, cond_true]
      cases Op.bytesLess y.Path t[i].Path
      · rfl
      · simp only [Bool.not_true, cond_false, Bool.true_and, fuel0, hin]
    · rw [decide_eq_false h0]
      simp only [cond_false, Bool.true_and, fuel0, hin]) (fun m => by simp only [spec_l4Ok_l1, end_of, cond_false]) _ (by omega)]
  cases decide ((t.length : Int) ≤ 8) <;> cases allN (sTree t) 0 t.length <;> rfl
theorem PathIn_any {d p : Str} (hd : d.length ≤ 1048576) (hp : p.length ≤ 1048576) : impl_PathIn d p = some (pathB d && (pathB p && belowB d p)) := by
  cases h1 : pathB d with
  | false => unfold impl_PathIn; simp only [jn, PathOk_eq hd, h1, Option.bind_some, cond_false, Bool.false_and]
  | true =>
    cases h2 : pathB p with
    | false => unfold impl_PathIn; simp only [jn, PathOk_eq hd, PathOk_eq hp, h1, h2, Option.bind_some, cond_false, cond_true, Bool.false_and, Bool.and_false]
    | true => rw [PathIn_eq hd hp h1 h2]; rfl
theorem TreeOk_eq {t : List File} (h : TB t) : impl_TreeOk t = some (treeB t) := by
  have hm := h.maxi
  unfold impl_TreeOk treeB
  by_cases h8 : (8 : Int) < (t.length : Int)
  · rw [decide_eq_true h8, decide_eq_false (by omega)]; rfl
  rw [decide_eq_false h8, decide_eq_true (by omega), cond_false, Bool.true_and, ← tree_sides]
  simp only [jn, fuel0]
  rw [loop_all (n := t.length) (g := iTree t) (r0 := some false) (Z := some true) (f := fun m i => impl_TreeOk_l1 t (fun _ _ => some true) m false i) (fun m i hi => by
    have hx : t[i]? = some t[i] := List.getElem?_eq_getElem hi
    have fx := h.at_ hx
    simp only [impl_TreeOk_l1, jn, lt_of hx, gi_of hx, cond_true, Option.bind_some, w64_ix hi hm, PathOk_eq fx.path, TextOk_eq fx.text, slM_take (Nat.le_of_lt hi), fuel0]
    unfold iTree fileB
    rw [getF_of hx]
    have hin : ∀ K : Bool → Int → Option Bool, impl_TreeOk_l2 t[i] (t.take i) K ((t.take i).length + 1) false 0 = bif (t.take i).all (fun f => !(pathB f.Path && (pathB t[i].Path && belowB f.Path t[i].Path))) then K false ((t.take i).length : Int) else some false := fun K => by
      rw [loop_list (α := File) (xs := t.take i) (p := fun f => !(pathB f.Path && (pathB t[i].Path && belowB f.Path t[i].Path))) (r0 := some false) (Z := K false ((t.take i).length : Int)) (f := fun m k => impl_TreeOk_l2 t[i] (t.take i) K m false k) (fun m k f hf => by
        have hf2 : FB f := h.2 f (List.mem_of_mem_take (List.mem_of_getElem? hf))
        simp only [impl_TreeOk_l2, lt_of hf, gi_of hf, cond_true, Option.bind_some, w64_ix (ix_of hf) (show (t.take i).length ≤ maxi by simp; omega), PathIn_any hf2.path fx.path]
        cases (pathB f.Path && (pathB t[i].Path && belowB f.Path t[i].Path)) <;> rfl) (fun m => by simp only [impl_TreeOk_l2, end_of, cond_false]) (by omega)]
    cases textB t[i].Text
    · cases pathB t[i].Path <;> rfl
    cases hp : pathB t[i].Path
    · rfl
    simp only [Bool.not_true, cond_false, Bool.true_and]
    by_cases h0 : (0 : Int) < (i : Int)
    · obtain ⟨y, hy, ey⟩ := prevF_at hx hm h0
      rw [hy, ey, decide_eq_true h0]
      simp only [Option.bind_some, cond_true]
      cases Op.bytesLess y.Path t[i].Path
      · rfl
      · simp only [Bool.not_true, cond_false, Bool.true_and, fuel0, hin, hp]
    · rw [decide_eq_false h0]
      simp only [cond_false, Bool.true_and, fuel0, hin, hp]) (fun m => by simp only [impl_TreeOk_l1, end_of, cond_false]) _ (by omega)]
  cases allN (iTree t) 0 t.length <;> rfl
end Go.Vm
namespace Go.Vm
open Go Go.Sx
set_option linter.unusedSimpArgs false
set_option linter.unusedVariables false
structure CB (c : Commit) : Prop where
  par : c.Parents.length ≤ 1048576
  who : c.Who.length ≤ 1048576
  tree : TB c.Tree
structure RpB (r : Repo) : Prop where
  coms : r.Commits.length ≤ 1048576
  com : ∀ c ∈ r.Commits, CB c
  heads : r.Heads.length ≤ 1048576
  head : ∀ h ∈ r.Heads, h.Name.length ≤ 1048576
theorem RpB.cat {r : Repo} (h : RpB r) {i : Nat} {c : Commit} (hc : r.Commits[i]? = some c) : CB c := h.com c (List.mem_of_getElem? hc)
theorem RpB.hat {r : Repo} (h : RpB r) {i : Nat} {c : Head} (hc : r.Heads[i]? = some c) : c.Name.length ≤ 1048576 := h.head c (List.mem_of_getElem? hc)
def noHead : Head := ⟨[], 0⟩
theorem getH_of {t : List Head} {i : Nat} {f : Head} (h : t[i]? = some f) : t.getD i noHead = f := by simp [List.getD, h]
theorem prevH_at {t : List Head} {i : Nat} {f : Head} (h : t[i]? = some f) (hl : t.length ≤ maxi) (h0 : (0 : Int) < (i : Int)) : ∃ y, gi t (w64 ((i : Int) - 1)) = some y ∧ t.getD (i - 1) noHead = y := by
  have hi := ix_of h
  have hx : t[i - 1]? = some t[i - 1] := List.getElem?_eq_getElem (by omega)
  exact ⟨_, by rw [prev_ix hi hl h0]; exact gi_of hx, getH_of hx⟩
def upB (i p : Int) : Bool := decide (0 ≤ p) && decide (p ≤ i - 1)
def twoB (ps : List Int) : Bool := match ps with
  | [p, q] => !(p == q)
  | _ => true
def comB (i : Int) (c : Commit) : Bool := c.Parents.all (upB i) && (decide ((c.Parents.length : Int) ≤ 2) && (twoB c.Parents && (nameB c.Who && treeB c.Tree)))
def noCommit : Commit := ⟨[], [], []⟩
def comsB (cs : List Commit) : Bool := allN (fun i => comB i (cs.getD i noCommit)) 0 cs.length
def headB (n : Nat) (hs : List Head) (i : Nat) : Bool := nameB (hs.getD i noHead).Name && (upB n (hs.getD i noHead).At && (bif decide (0 < (i : Int)) then Op.bytesLess (hs.getD (i - 1) noHead).Name (hs.getD i noHead).Name else true))
def headsB (n : Nat) (hs : List Head) : Bool := allN (headB n hs) 0 hs.length && decide ((hs.length : Int) ≤ 5)
def repoB (r : Repo) : Bool := decide ((r.Commits.length : Int) ≤ 16) && (comsB r.Commits && headsB r.Commits.length r.Heads)
theorem getC_of {t : List Commit} {i : Nat} {f : Commit} (h : t[i]? = some f) : t.getD i noCommit = f := by simp [List.getD, h]
theorem low_ix {n : Nat} (hn : n ≤ maxi) : w64 ((n : Int) - 1) = (n : Int) - 1 := w64_id (by omega) (by unfold maxi at hn; omega)
def parS (i : Int) (ps : List Int) (k : Nat) : Bool := upB i (ps.getD k 0) && !(decide (0 < (k : Int)) && (ps.getD k 0 == ps.getD 0 0))
theorem getI_of {t : List Int} {i : Nat} {f : Int} (h : t[i]? = some f) : t.getD i 0 = f := by simp [List.getD, h]
theorem par_sides (i : Int) (ps : List Int) (h2 : (ps.length : Int) ≤ 2) : allN (parS i ps) 0 ps.length = (ps.all (upB i) && twoB ps) := by
  match ps, h2 with
  | [], _ => rfl
  | [p], _ => simp [allN, parS, twoB]
  | [p, q], _ =>
    simp only [allN, parS, twoB, List.length_cons, List.length_nil, List.all_cons, List.all_nil]
    have e : (q == p) = (p == q) := by
      apply bool_ext; rw [beq_iff_eq, beq_iff_eq]; exact eq_comm
    simp [e]
    cases upB i p <;> cases upB i q <;> simp
  | p :: q :: s :: l, h => simp at h; omega
theorem l7_l2 {i : Nat} {c : Commit} (hi : i ≤ 1048576) (hc : CB c) (K : Bool → Int → Option Bool) : spec_l7Ok_l2 (i : Int) c K (c.Parents.length + 1) false 0 = bif allN (parS i c.Parents) 0 c.Parents.length then K false (c.Parents.length : Int) else some false := by
  have hm := to_maxi hc.par
  rw [loop_all (n := c.Parents.length) (g := parS i c.Parents) (r0 := some false) (Z := K false (c.Parents.length : Int)) (f := fun m k => spec_l7Ok_l2 (i : Int) c K m false k) (fun m k hk => by
    have hx : c.Parents[k]? = some c.Parents[k] := List.getElem?_eq_getElem hk
    have h00 : c.Parents[0]? = some c.Parents[0] := List.getElem?_eq_getElem (by omega)
    have hg0 : gi c.Parents 0 = some c.Parents[0] := gi_of (i := 0) h00
    simp only [spec_l7Ok_l2, jn, lt_of hx, gi_of hx, hg0, cond_true, Option.bind_some, w64_ix hk hm, l1In_eq, low_ix (show i ≤ maxi by unfold maxi; omega)]
    unfold parS
    rw [getI_of hx, getI_of h00, show (decide ((0 : Int) ≤ c.Parents[k]) && decide (c.Parents[k] ≤ (i : Int) - 1)) = upB i c.Parents[k] from rfl]
    cases upB (i : Int) c.Parents[k]
    · rfl
    · cases decide ((0 : Int) < (k : Int))
      · rfl
      · cases (c.Parents[k] == c.Parents[0]) <;> rfl) (fun m => by simp only [spec_l7Ok_l2, end_of, cond_false]) _ (by omega)]
theorem l7_l3 {r : Repo} (h : RpB r) : spec_l7Ok_l3 r (fun _ _ => jn (fun (y128 : Bool) => some y128) fun K130 => bif decide (((r.Commits.length : Int) : Int) ≤ (16 : Int)) then (K130 (decide (((r.Heads.length : Int) : Int) ≤ (5 : Int)))) else (K130 false)) (r.Heads.length + 1) false 0 = some (decide ((r.Commits.length : Int) ≤ 16) && headsB r.Commits.length r.Heads) := by
  have hm := to_maxi h.heads
  rw [loop_all (n := r.Heads.length) (g := headB r.Commits.length r.Heads) (r0 := some false) (Z := some (decide ((r.Commits.length : Int) ≤ 16) && decide ((r.Heads.length : Int) ≤ 5))) (f := fun m k => spec_l7Ok_l3 r _ m false k) (fun m k hk => by
    have hx : r.Heads[k]? = some r.Heads[k] := List.getElem?_eq_getElem hk
    simp only [spec_l7Ok_l3, jn, lt_of hx, gi_of hx, cond_true, Option.bind_some, w64_ix hk hm, l1In_eq, low_ix (to_maxi h.coms), l4Name_eq (to_maxi (h.hat hx))]
    unfold headB
    rw [getH_of hx, show (decide ((0 : Int) ≤ r.Heads[k].At) && decide (r.Heads[k].At ≤ (r.Commits.length : Int) - 1)) = upB r.Commits.length r.Heads[k].At from rfl]
    cases nameB r.Heads[k].Name
    · rfl
    cases upB r.Commits.length r.Heads[k].At
    · rfl
    by_cases h0 : (0 : Int) < (k : Int)
    · obtain ⟨y, hy, ey⟩ := prevH_at hx hm h0
      rw [hy, ey, decide_eq_true h0]
      simp only [Option.bind_some, le_less2]
      cases Op.bytesLess y.Name r.Heads[k].Name <;> rfl
    · rw [decide_eq_false h0]; rfl) (fun m => by
      simp only [spec_l7Ok_l3, end_of, cond_false, jn]
      cases decide ((r.Commits.length : Int) ≤ 16) <;> rfl) _ (by omega)]
  unfold headsB
  cases allN (headB r.Commits.length r.Heads) 0 r.Heads.length <;> cases decide ((r.Commits.length : Int) ≤ 16) <;> rfl
theorem l7Ok_eq {r : Repo} (h : RpB r) : spec_l7Ok r = some (repoB r) := by
  have hm := to_maxi h.coms
  unfold spec_l7Ok repoB comsB
  simp only [jn, fuel0]
  have h3 := l7_l3 h
  simp only [jn] at h3
  rw [loop_all (n := r.Commits.length) (g := fun i => comB i (r.Commits.getD i noCommit)) (r0 := some false) (Z := some (decide ((r.Commits.length : Int) ≤ 16) && headsB r.Commits.length r.Heads)) (f := fun m i => spec_l7Ok_l1 r _ m false i) (fun m i hi => by
    have hx : r.Commits[i]? = some r.Commits[i] := List.getElem?_eq_getElem hi
    have hc := h.cat hx
    have hco := h.coms
    simp only [spec_l7Ok_l1, jn, lt_of hx, gi_of hx, cond_true, Option.bind_some, w64_ix hi hm, fuel0, l7_l2 (show i ≤ 1048576 by omega) hc, getC_of hx]
    unfold comB
    by_cases h2 : (2 : Int) < (r.Commits[i].Parents.length : Int)
    · rw [decide_eq_true h2, decide_eq_false (show ¬ (r.Commits[i].Parents.length : Int) ≤ 2 by omega)]
      simp only [cond_true, Bool.false_and, Bool.and_false, cond_false]
      cases allN (parS i r.Commits[i].Parents) 0 r.Commits[i].Parents.length <;> rfl
    · rw [decide_eq_false h2, decide_eq_true (show (r.Commits[i].Parents.length : Int) ≤ 2 by omega), par_sides _ _ (by omega)]
      simp only [cond_false, Bool.true_and, l4Name_eq (to_maxi hc.who), l4Ok_eq hc.tree, Option.bind_some]
      cases r.Commits[i].Parents.all (upB i) <;> cases twoB r.Commits[i].Parents <;> cases nameB r.Commits[i].Who <;> cases treeB r.Commits[i].Tree <;> rfl) (fun m => by
      simp only [spec_l7Ok_l1, end_of, cond_false, jn, fuel0, h3]) _ (by omega)]
  cases allN (fun i => comB i (r.Commits.getD i noCommit)) 0 r.Commits.length <;> cases decide ((r.Commits.length : Int) ≤ 16) <;> rfl
theorem headsOk_eq {r : Repo} (h : RpB r) {hs : List Head} (hl : hs.length ≤ 1048576) (hn : ∀ h ∈ hs, h.Name.length ≤ 1048576) : impl_headsOk r hs = some (headsB r.Commits.length hs) := by
  have hm := to_maxi hl
  unfold impl_headsOk headsB
  by_cases h5 : (5 : Int) < (hs.length : Int)
  · rw [decide_eq_true h5, decide_eq_false (show ¬ (hs.length : Int) ≤ 5 by omega), Bool.and_false]; rfl
  rw [decide_eq_false h5, decide_eq_true (show (hs.length : Int) ≤ 5 by omega), cond_false, Bool.and_true]
  simp only [jn, fuel0]
  rw [loop_all (n := hs.length) (g := headB r.Commits.length hs) (r0 := some false) (Z := some true) (f := fun m k => impl_headsOk_l1 r hs (fun _ _ => some true) m false k) (fun m k hk => by
    have hx : hs[k]? = some hs[k] := List.getElem?_eq_getElem hk
    simp only [impl_headsOk_l1, impl_Repo_exists, jn, lt_of hx, gi_of hx, cond_true, Option.bind_some, w64_ix hk hm, within_eq, low_ix (to_maxi h.coms), nameOk_eq (to_maxi (hn _ (List.mem_of_getElem? hx)))]
    unfold headB
    rw [getH_of hx, show (decide ((0 : Int) ≤ hs[k].At) && decide (hs[k].At ≤ (r.Commits.length : Int) - 1)) = upB r.Commits.length hs[k].At from rfl]
    cases nameB hs[k].Name
    · rfl
    cases upB r.Commits.length hs[k].At
    · rfl
    by_cases h0 : (0 : Int) < (k : Int)
    · obtain ⟨y, hy, ey⟩ := prevH_at hx hm h0
      rw [hy, ey, decide_eq_true h0]
      simp only [Option.bind_some]
      cases Op.bytesLess y.Name hs[k].Name <;> rfl
    · rw [decide_eq_false h0]; rfl) (fun m => by simp only [impl_headsOk_l1, end_of, cond_false]) _ (by omega)]
  cases allN (headB r.Commits.length hs) 0 hs.length <;> rfl
theorem RepoOk_eq {r : Repo} (h : RpB r) : impl_RepoOk r = some (repoB r) := by
  have hm := to_maxi h.coms
  unfold impl_RepoOk repoB comsB
  by_cases h16 : (16 : Int) < (r.Commits.length : Int)
  · rw [decide_eq_true h16, decide_eq_false (by omega)]; rfl
  rw [decide_eq_false h16, decide_eq_true (by omega), cond_false, Bool.true_and]
  simp only [jn, fuel0]
  rw [loop_all (n := r.Commits.length) (g := fun i => comB i (r.Commits.getD i noCommit)) (r0 := some false) (Z := some (headsB r.Commits.length r.Heads)) (f := fun m i => impl_RepoOk_l1 r _ m false i) (fun m i hi => by
    have hx : r.Commits[i]? = some r.Commits[i] := List.getElem?_eq_getElem hi
    have hc := h.cat hx
    have hco := h.coms
    have hpm := to_maxi hc.par
    have hin : ∀ K : Bool → Int → Option Bool, impl_RepoOk_l2 (i : Int) r.Commits[i] K (r.Commits[i].Parents.length + 1) false 0 = bif r.Commits[i].Parents.all (upB i) then K false (r.Commits[i].Parents.length : Int) else some false := fun K => by
      rw [loop_list (α := Int) (xs := r.Commits[i].Parents) (p := upB i) (r0 := some false) (Z := K false (r.Commits[i].Parents.length : Int)) (f := fun m k => impl_RepoOk_l2 (i : Int) r.Commits[i] K m false k) (fun m k p hp => by
        simp only [impl_RepoOk_l2, lt_of hp, gi_of hp, cond_true, Option.bind_some, w64_ix (ix_of hp) hpm, within_eq, low_ix (show i ≤ maxi by unfold maxi; omega)]
        rw [show (decide ((0 : Int) ≤ p) && decide (p ≤ (i : Int) - 1)) = upB i p from rfl]
        cases upB i p <;> rfl) (fun m => by simp only [impl_RepoOk_l2, end_of, cond_false]) (by omega)]
    simp only [impl_RepoOk_l1, jn, lt_of hx, gi_of hx, cond_true, Option.bind_some, w64_ix hi hm, fuel0, hin, getC_of hx, nameOk_eq (to_maxi hc.who), TreeOk_eq hc.tree]
    unfold comB
    match hps : r.Commits[i].Parents with
    | [] => cases nameB r.Commits[i].Who <;> cases treeB r.Commits[i].Tree <;> rfl
    | [p] =>
      simp only [List.length_cons, List.length_nil, List.all_cons, List.all_nil, twoB]
      cases upB i p <;> cases nameB r.Commits[i].Who <;> cases treeB r.Commits[i].Tree <;> rfl
    | [p, q] =>
      simp only [List.length_cons, List.length_nil, List.all_cons, List.all_nil, twoB, gi, List.getElem?_cons_zero, List.getElem?_cons_succ, Int.toNat_zero, Int.toNat_one]
      cases upB i p <;> cases upB i q <;> cases hpq : p == q <;> cases nameB r.Commits[i].Who <;> cases treeB r.Commits[i].Tree <;> simp [hpq] <;> rfl
    | p :: q :: s :: l =>
      rw [decide_eq_true (by simp only [List.length_cons]; omega), decide_eq_false (show ¬ (((p :: q :: s :: l).length : Nat) : Int) ≤ 2 by simp only [List.length_cons]; omega)]
      simp only [cond_true, Bool.false_and, Bool.and_false, cond_false]) (fun m => by
      simp only [impl_RepoOk_l1, end_of, cond_false, jn, headsOk_eq h h.heads h.head, Option.bind_some]) _ (by omega)]
  cases allN (fun i => comB i (r.Commits.getD i noCommit)) 0 r.Commits.length <;> rfl
def atB (r : Repo) (name : Str) : Int := match r.Heads.find? (fun h => h.Name == name) with
  | some h => h.At
  | none => -1
theorem l7At_eq {r : Repo} (h : RpB r) (name : Str) : spec_l7At r name = some (atB r name) := by
  have hm := to_maxi h.heads
  unfold spec_l7At atB
  simp only [jn, fuel0]
  rw [loop_find (p := fun h : Head => h.Name == name) (xs := r.Heads) (r := fun h => some h.At) (Z := some (-1)) (f := fun m k => spec_l7At_l1 r name _ m 0 k) (fun m i x hx => by
    simp only [spec_l7At_l1, lt_of hx, gi_of hx, cond_true, Option.bind_some, w64_ix (ix_of hx) hm]) (fun m => by simp only [spec_l7At_l1, end_of, cond_false]) (by omega)]
  cases r.Heads.find? (fun h => h.Name == name) <;> rfl
theorem iAt_eq {r : Repo} (h : RpB r) (name : Str) : impl_Repo_at r name = some (atB r name) := by
  have hm := to_maxi h.heads
  unfold impl_Repo_at atB
  simp only [jn, fuel0]
  rw [loop_find (p := fun h : Head => h.Name == name) (xs := r.Heads) (r := fun h => some h.At) (Z := some (-1)) (f := fun m k => impl_Repo_at_l1 r name _ m 0 k) (fun m i x hx => by
    simp only [impl_Repo_at_l1, lt_of hx, gi_of hx, cond_true, Option.bind_some, w64_ix (ix_of hx) hm]) (fun m => by simp only [impl_Repo_at_l1, end_of, cond_false]) (by omega)]
  cases r.Heads.find? (fun h => h.Name == name) <;> rfl
theorem exists_eq {r : Repo} (h : RpB r) (a : Int) : impl_Repo_exists r a = some (upB r.Commits.length a) := by
  unfold impl_Repo_exists
  rw [low_ix (to_maxi h.coms), within_eq, Option.bind_some]
  rfl
theorem upB_iff {n : Nat} {a : Int} : upB n a = true ↔ 0 ≤ a ∧ a ≤ (n : Int) - 1 := by
  unfold upB
  simp only [Bool.and_eq_true, decide_eq_true_eq]
end Go.Vm
namespace Go.Vm
open Go Go.Sx
set_option linter.unusedSimpArgs false
set_option linter.unusedVariables false
theorem l4Copy_eq {t : List File} (h : TB t) : spec_l4Copy t = some t := by
  have hm := h.maxi
  have hl := h.1
  unfold spec_l4Copy
  simp only [jn, fuel0]
  rw [loop_filter (xs := t) (p := fun _ => true) (g := fun f : File => f) (Z := fun acc => some acc) (f := fun m acc i => spec_l4Copy_l1 t _ m acc i) (fun m i x acc hx ha => by
    have hi := ix_of hx
    simp only [spec_l4Copy_l1, lt_of hx, gi_of hx, cond_true, Option.bind_some, w64_ix hi hm, apN (h.at_ hx).len, ap1 (show acc.length ≤ 1048576 by omega)]) (fun m acc => by simp only [spec_l4Copy_l1, end_of, cond_false]) (by omega)]
  simp
theorem copyTree_eq {t : List File} (h : TB t) : impl_copyTree t = some t := by
  have hm := h.maxi
  have hl := h.1
  unfold impl_copyTree
  simp only [jn, fuel0]
  rw [loop_filter (xs := t) (p := fun _ => true) (g := fun f : File => f) (Z := fun acc => some acc) (f := fun m acc i => impl_copyTree_l1 t _ m acc i) (fun m i x acc hx ha => by
    have hi := ix_of hx
    simp only [impl_copyTree_l1, lt_of hx, gi_of hx, cond_true, Option.bind_some, w64_ix hi hm, copyText_eq (h.at_ hx).len, ap1 (show acc.length ≤ 1048576 by omega)]) (fun m acc => by simp only [impl_copyTree_l1, end_of, cond_false]) (by omega)]
  simp
theorem l7CopyCommit_eq {c : Commit} (h : CB c) : spec_l7CopyCommit c = some c := by
  unfold spec_l7CopyCommit
  rw [apN h.par, Option.bind_some, l4Copy_eq h.tree, Option.bind_some]
theorem l7Copy_eq {r : Repo} (h : RpB r) : spec_l7Copy r = some r := by
  have hm := to_maxi h.coms
  have hl := h.coms
  unfold spec_l7Copy
  simp only [jn, fuel0, apN h.heads, Option.bind_some]
  rw [loop_filter (xs := r.Commits) (p := fun _ => true) (g := fun f : Commit => f) (Z := fun acc => some (Repo.mk acc r.Heads)) (f := fun m acc i => spec_l7Copy_l1 r _ m i acc r.Heads) (fun m i x acc hx ha => by
    have hi := ix_of hx
    simp only [spec_l7Copy_l1, lt_of hx, gi_of hx, cond_true, Option.bind_some, w64_ix hi hm, l7CopyCommit_eq (h.cat hx), ap1 (show acc.length ≤ 1048576 by omega)]) (fun m acc => by simp only [spec_l7Copy_l1, end_of, cond_false]) (by omega)]
  rw [show ((r.Commits.filter fun _ => true).map fun f : Commit => f) = r.Commits by simp]
def putH (n : Str) (a : Int) : Bool → List Head → List Head
  | put, [] => bif put then [] else [⟨n, a⟩]
  | put, h :: hs => (bif !put && !Op.bytesLess h.Name n then [⟨n, a⟩] else []) ++ ((bif h.Name != n then [h] else []) ++ putH n a (put || !Op.bytesLess h.Name n) hs)
theorem putH_len (n : Str) (a : Int) : ∀ (hs : List Head) (put : Bool), (putH n a put hs).length + (bif put then 1 else 0) ≤ hs.length + 1
  | [], put => by cases put <;> simp [putH]
  | h :: hs, put => by
    have ih := putH_len n a hs (put || !Op.bytesLess h.Name n)
    unfold putH
    cases put <;> cases hb : Op.bytesLess h.Name n <;> cases hn : (h.Name != n) <;> simp [hb] at ih ⊢ <;> omega
theorem putH_mem (n : Str) (a : Int) : ∀ (hs : List Head) (put : Bool) (x : Head), x ∈ putH n a put hs → x ∈ hs ∨ x = ⟨n, a⟩
  | [], put, x, h => by cases put <;> simp [putH] at h; exact .inr h
  | h :: hs, put, x, hx => by
    unfold putH at hx
    rcases List.mem_append.1 hx with h1 | h1
    · cases hc : (!put && !Op.bytesLess h.Name n) with
      | true => rw [hc] at h1; simp at h1; exact .inr h1
      | false => rw [hc] at h1; simp at h1
    · rcases List.mem_append.1 h1 with h2 | h2
      · cases hc : (h.Name != n) with
        | true => rw [hc] at h2; simp at h2; exact .inl (by rw [h2]; simp)
        | false => rw [hc] at h2; simp at h2
      · rcases putH_mem n a hs _ x h2 with h3 | h3
        · exact .inl (List.mem_cons_of_mem _ h3)
        · exact .inr h3
theorem l7Head_l1 {r : Repo} (h : RpB r) (hs : r.Heads.length ≤ 100000) (n : Str) (a : Int) (cs : List Commit) : ∀ (k i m : Nat) (put : Bool) (out : List Head), i + k = r.Heads.length → k < m → out.length ≤ 2 * i →
    spec_l7Head_l1 r n a (fun y14 _ y16 y19 => bif (!y14) then ((apM y19 [Vm.Head.mk n a]).bind fun q160 => some (Vm.Repo.mk y16 q160)) else some (Vm.Repo.mk y16 y19)) m put (i : Int) cs out = some ⟨cs, out ++ putH n a put (r.Heads.drop i)⟩
  | k, i, 0, put, out, _, hm, _ => by omega
  | 0, i, m + 1, put, out, hi, _, ho => by
    obtain rfl : i = r.Heads.length := by omega
    simp only [spec_l7Head_l1, end_of, cond_false, List.drop_length]
    cases put
    · simp only [Bool.not_false, cond_true, ap1 (show out.length ≤ 1048576 by omega), Option.bind_some, putH, cond_false]
    · simp [putH]
  | k + 1, i, m + 1, put, out, hi, hm, ho => by
    have hlt : i < r.Heads.length := by omega
    have hx : r.Heads[i]? = some r.Heads[i] := List.getElem?_eq_getElem hlt
    have hd : r.Heads.drop i = r.Heads[i] :: r.Heads.drop (i + 1) := List.drop_eq_getElem_cons hlt
    have hw := w64_ix hlt (to_maxi h.heads)
    have ih := fun put out ho => l7Head_l1 h hs n a cs k (i + 1) m put out (by omega) (by omega) ho
    simp only [spec_l7Head_l1, jn, lt_of hx, gi_of hx, cond_true, Option.bind_some, hw]
    rw [hd]
    unfold putH
    have e1 := ap1 (x := Vm.Head.mk n a) (show out.length ≤ 1048576 by omega)
    have e2 := ap1 (x := r.Heads[i]) (show out.length ≤ 1048576 by omega)
    have e3 : apM (out ++ [Vm.Head.mk n a]) [r.Heads[i]] = some (out ++ ([Vm.Head.mk n a] ++ [r.Heads[i]])) := by rw [ap1 (show (out ++ [Vm.Head.mk n a]).length ≤ 1048576 by simp; omega), List.append_assoc]
    have l1 : (out ++ [r.Heads[i]]).length ≤ 2 * (i + 1) := by simp; omega
    have l2 : (out ++ [Vm.Head.mk n a]).length ≤ 2 * (i + 1) := by simp; omega
    have l3 : (out ++ ([Vm.Head.mk n a] ++ [r.Heads[i]])).length ≤ 2 * (i + 1) := by simp; omega
    have l0 : out.length ≤ 2 * (i + 1) := by omega
    cases put <;> cases Op.bytesLess r.Heads[i].Name n <;> cases (r.Heads[i].Name != n) <;>
      simp only [Bool.not_true, Bool.not_false, cond_true, cond_false, e1, e2, e3, Option.bind_some, Bool.and_true, Bool.and_false, Bool.or_true, Bool.or_false, Bool.true_and, Bool.false_and, Bool.true_or, Bool.false_or, ih _ _ l0, ih _ _ l1, ih _ _ l2, ih _ _ l3, List.append_assoc, List.nil_append]
def headR (r : Repo) (n : Str) (a : Int) : Repo := ⟨r.Commits, putH n a false r.Heads⟩
theorem l7Head_eq {r : Repo} (h : RpB r) (hs : r.Heads.length ≤ 100000) (n : Str) (a : Int) : spec_l7Head r n a = some (headR r n a) := by
  unfold spec_l7Head headR
  simp only [jn, fuel0]
  have := l7Head_l1 h hs n a r.Commits r.Heads.length 0 (r.Heads.length + 1) false [] (by omega) (by omega) (by simp)
  simpa using this
theorem RpB.headR {r : Repo} (h : RpB r) (hs : r.Heads.length ≤ 100000) {n : Str} (hn : n.length ≤ 1048576) (a : Int) : RpB (headR r n a) :=
  ⟨h.coms, h.com, by have := putH_len n a r.Heads false; simp at this; show (putH n a false r.Heads).length ≤ _; omega, fun x hx => by
    rcases putH_mem n a r.Heads false x hx with h1 | h1
    · exact h.head x h1
    · rw [h1]; exact hn⟩
def addR (r : Repo) (n : Str) (c : Commit) : Repo := ⟨r.Commits ++ [c], putH n r.Commits.length false r.Heads⟩
theorem RpB.push {r : Repo} (h : RpB r) {c : Commit} (hc : CB c) (hl : r.Commits.length ≤ 100000) : RpB ⟨r.Commits ++ [c], r.Heads⟩ :=
  ⟨by simp; omega, fun x hx => by
    rcases List.mem_append.1 hx with h1 | h1
    · exact h.com x h1
    · rw [List.mem_singleton] at h1; rw [h1]; exact hc, h.heads, h.head⟩
theorem RpB.addR {r : Repo} (h : RpB r) (hl : r.Commits.length ≤ 100000) (hs : r.Heads.length ≤ 100000) {n : Str} (hn : n.length ≤ 1048576) {c : Commit} (hc : CB c) : RpB (addR r n c) :=
  (h.push hc hl).headR hs hn _
theorem l7Add_eq {r : Repo} (h : RpB r) (hl : r.Commits.length ≤ 100000) (hs : r.Heads.length ≤ 100000) (n : Str) {c : Commit} (hc : CB c) : spec_l7Add r n c = some (addR r n c) := by
  unfold spec_l7Add
  rw [apN h.coms, Option.bind_some, ap1 h.coms, Option.bind_some, l7Head_eq (h.push hc hl) hs, Option.bind_some]
  rfl
theorem repo_small {r : Repo} (h : repoB r = true) : r.Commits.length ≤ 16 ∧ r.Heads.length ≤ 5 := by
  unfold repoB headsB at h
  simp only [Bool.and_eq_true, decide_eq_true_eq] at h
  omega
def zeroR : Repo := ⟨[], []⟩
theorem tree_small {t : List File} (h : treeB t = true) : t.length ≤ 8 := by
  unfold treeB at h
  simp only [Bool.and_eq_true, decide_eq_true_eq] at h
  omega
end Go.Vm
namespace Go.Vm
open Go Go.Sx
set_option linter.unusedSimpArgs false
set_option linter.unusedVariables false
theorem repo_com {r : Repo} (h : repoB r = true) {i : Nat} (hi : i < r.Commits.length) : comB i (r.Commits.getD i noCommit) = true := by
  unfold repoB comsB at h
  simp only [Bool.and_eq_true] at h
  exact allN_iff.1 h.2.1 i (Nat.zero_le _) (by omega)
def parsAt (r : Repo) (i : Nat) : List Int := (r.Commits.getD i noCommit).Parents
theorem pars_small {r : Repo} (h : repoB r = true) {i : Nat} (hi : i < r.Commits.length) : (parsAt r i).length ≤ 2 ∧ ∀ p ∈ parsAt r i, 0 ≤ p ∧ p ≤ (i : Int) - 1 := by
  have := repo_com h hi
  unfold comB at this
  simp only [Bool.and_eq_true, decide_eq_true_eq, List.all_eq_true] at this
  obtain ⟨h1, h2, _⟩ := this
  refine ⟨by unfold parsAt; omega, fun p hp => ?_⟩
  have := h1 p hp
  unfold upB at this
  simp only [Bool.and_eq_true, decide_eq_true_eq] at this
  exact this
theorem com_at {r : Repo} {i : Nat} (hi : i < r.Commits.length) : gi r.Commits (i : Int) = some (r.Commits.getD i noCommit) := by
  rw [getC_of (List.getElem?_eq_getElem hi)]
  exact gi_of (List.getElem?_eq_getElem hi)
theorem head_at {r : Repo} (h : repoB r = true) {x : Head} (hx : x ∈ r.Heads) : 0 ≤ x.At ∧ x.At ≤ (r.Commits.length : Int) - 1 ∧ nameB x.Name = true := by
  obtain ⟨i, hi⟩ := List.mem_iff_getElem?.1 hx
  unfold repoB headsB at h
  simp only [Bool.and_eq_true] at h
  have := allN_iff.1 h.2.2.1 i (Nat.zero_le _) (by have := ix_of hi; omega)
  unfold headB upB at this
  rw [getH_of hi] at this
  simp only [Bool.and_eq_true, decide_eq_true_eq] at this
  exact ⟨this.2.1.1, this.2.1.2, this.1⟩
theorem at_range {r : Repo} (h : repoB r = true) (n : Str) : atB r n = -1 ∨ (0 ≤ atB r n ∧ atB r n ≤ (r.Commits.length : Int) - 1) := by
  unfold atB
  cases hf : r.Heads.find? (fun h => h.Name == n) with
  | none => exact .inl rfl
  | some x =>
    have := head_at h (List.mem_of_find?_eq_some hf)
    exact .inr ⟨this.1, this.2.1⟩
theorem gi_getI {l : List Int} {i : Nat} (h : i < l.length) : gi l (i : Int) = some (l.getD i 0) := by
  rw [getI_of (List.getElem?_eq_getElem h)]
  exact gi_of (List.getElem?_eq_getElem h)
end Go.Vm
namespace Go.Vm
open Go Go.Sx
set_option linter.unusedSimpArgs false
set_option linter.unusedVariables false
def stepL (s : List Str) (p : Part) : Option (List Str) := bif p.Clash then none else some (s ++ p.Lines)
def linesT (ps : List Part) : List Str × Bool := match ps.foldlM stepL [] with
  | some s => okT s
  | none => ([], false)
theorem stepL_inv {i : Nat} {s s' : List Str} {p : Part} (hp : p.Lines.length ≤ 22000) (hpl : ∀ x ∈ p.Lines, lineB x = true) (hI : InvT i s) (hst : stepL s p = some s') : InvT (i + 1) s' := by
  unfold stepL at hst
  cases hc : p.Clash with
  | true => rw [hc] at hst; cases hst
  | false =>
    rw [hc, cond_false] at hst
    cases hst
    refine ⟨by rw [List.length_append]; have := hI.1; omega, fun x hx => ?_⟩
    rcases List.mem_append.1 hx with h1 | h1
    · exact hI.2 x h1
    · exact hpl x h1
theorem l3Text_eq {o a b : List Str} (hto : textB o = true) (hta : textB a = true) (htb : textB b = true) : spec_l3Text (mergeF o a b) = some (linesT (mergeF o a b)) := by
  obtain ⟨hlen, hparts⟩ := parts_inv hto hta htb
  unfold spec_l3Text linesT
  simp only [jn, fuel0]
  obtain ⟨h1, h2⟩ := loop_foldM (xs := mergeF o a b) (step := stepL) (r0 := some (([] : List Str), false)) (Inv := InvT) (s0 := []) (Z := fun s => (spec_l1Ok s).bind fun z30 => bif (!z30) then (some (([] : List Str), false)) else (some (s, true))) (f := fun m s i => spec_l3Text_l1 (mergeF o a b) (fun _ _ y7 _ => (spec_l1Ok y7).bind fun z30 => bif (!z30) then (some (([] : List Str), false)) else (some (y7, true))) m [] false s i) (fun m i p s hx hI => by
    have hi := ix_of hx
    obtain ⟨p1, p2, _⟩ := hparts p (List.mem_of_getElem? hx)
    refine ⟨?_, fun s' hst => stepL_inv p1 p2 hI hst⟩
    have hs := hI.1
    simp only [spec_l3Text_l1, lt_of hx, gi_of hx, cond_true, Option.bind_some, w64_ix hi (show (mergeF o a b).length ≤ maxi by unfold maxi; omega), apT (show s.length ≤ 1000000 by omega) (show p.Lines.length ≤ 1000000 by omega)]
    unfold stepL
    cases p.Clash <;> rfl) (fun m s hI => by simp only [spec_l3Text_l1, end_of, cond_false]) (m := (mergeF o a b).length + 1) (by omega) ⟨by simp, by simp⟩
  refine h1.trans ?_
  cases hf : (mergeF o a b).foldlM stepL [] with
  | none => rfl
  | some s =>
    have hI := h2 s hf
    have hs := hI.1
    show (spec_l1Ok s).bind _ = some (okT s)
    rw [l1Ok_eq (fit_lines (by omega) hI.2), Option.bind_some]
    unfold okT
    cases textB s <;> rfl
theorem linesT_ok {ps : List Part} : (linesT ps).2 = true → textB (linesT ps).1 = true := by
  unfold linesT okT
  cases ps.foldlM stepL [] with
  | none => intro h; cases h
  | some s =>
    show (bif textB s then (s, true) else (([] : List Str), false)).2 = true → textB (bif textB s then (s, true) else (([] : List Str), false)).1 = true
    cases ht : textB s with
    | true => intro _; exact ht
    | false => intro h; cases h
def getT (t : List File) (p : Str) : List Str × Bool := match t.find? (fun f => f.Path == p) with
  | some f => (f.Text, true)
  | none => ([], false)
theorem l4Get_eq {t : List File} (h : TB t) (p : Str) : spec_l4Get t p = some (getT t p) := by
  have hm := h.maxi
  unfold spec_l4Get getT
  simp only [jn, fuel0]
  rw [loop_find (p := fun f : File => f.Path == p) (xs := t) (r := fun f => some (f.Text, true)) (Z := some (([] : List Str), false)) (f := fun m k => spec_l4Get_l1 t p _ m [] false k) (fun m i x hx => by
    simp only [spec_l4Get_l1, lt_of hx, gi_of hx, cond_true, Option.bind_some, w64_ix (ix_of hx) hm]) (fun m => by simp only [spec_l4Get_l1, end_of, cond_false]) (by omega)]
  cases t.find? (fun f => f.Path == p) <;> rfl
theorem getT_tb {t : List File} (h : TB t) (p : Str) : (getT t p).1.length ≤ 1048576 ∧ Bk.fit (getT t p).1 := by
  unfold getT
  cases hf : t.find? (fun f => f.Path == p) with
  | some f =>
    have := h.2 f (List.mem_of_find?_eq_some hf)
    exact ⟨this.len, this.text⟩
  | none => exact ⟨by simp, by simp [maxi], by simp⟩
def textsB (t : List File) : Prop := ∀ f ∈ t, textB f.Text = true
theorem getT_text {t : List File} (h : textsB t) (p : Str) : textB (getT t p).1 = true := by
  unfold getT
  cases hf : t.find? (fun f => f.Path == p) with
  | some f => exact h f (List.mem_of_find?_eq_some hf)
  | none => rfl
def same6 (a b : List Str × Bool) : Bool := (a.2 == b.2) && (bif a.2 then a.1 == b.1 else true)
theorem l6Same_eq {a b : List Str × Bool} (h : a.1.length ≤ 1048576) : spec_l6Same a.1 a.2 b.1 b.2 = some (same6 a b) := by
  unfold spec_l6Same same6
  simp only [jn, l1Same_eq (to_maxi h), Option.bind_some]
  cases a.2 <;> cases b.2 <;> rfl
def oneF (o a b : List File) (p : Str) : List Str × Bool × Int :=
  let zo := getT o p; let za := getT a p; let zb := getT b p
  bif same6 za zo || same6 za zb then (zb.1, zb.2, 0)
  else bif same6 zb zo then (za.1, za.2, 0)
  else bif !za.2 || !zb.2 then (zo.1, zo.2, 1)
  else bif !zo.2 then ([], false, 2)
  else bif (linesT (mergeF zo.1 za.1 zb.1)).2 then ((linesT (mergeF zo.1 za.1 zb.1)).1, true, 0) else (zo.1, true, 3)
theorem l6One_eq {o a b : List File} (ho : TB o) (ha : TB a) (hb : TB b) (to : textsB o) (ta : textsB a) (tb : textsB b) (p : Str) : spec_l6One o a b p = some (oneF o a b p) := by
  have eo := getT_text to p
  have ea := getT_text ta p
  have eb := getT_text tb p
  have lo := textB_len eo
  have la := textB_len ea
  have lb := textB_len eb
  unfold spec_l6One oneF
  simp only [jn, l4Get_eq ho, l4Get_eq ha, l4Get_eq hb, Option.bind_some, l6Same_eq (a := getT a p) (getT_tb ha p).1, l6Same_eq (a := getT b p) (getT_tb hb p).1, l3Of_eq (show (getT o p).1.length ≤ 1000 by omega) (show (getT a p).1.length ≤ 1000 by omega) (show (getT b p).1.length ≤ 1000 by omega), l3Text_eq eo ea eb]
  cases same6 (getT a p) (getT o p) <;> cases same6 (getT a p) (getT b p) <;> cases same6 (getT b p) (getT o p) <;> cases (getT a p).2 <;> cases (getT b p).2 <;> cases (getT o p).2 <;> cases (linesT (mergeF (getT o p).1 (getT a p).1 (getT b p).1)).2 <;> rfl
theorem oneF_text {o a b : List File} (to : textsB o) (ta : textsB a) (tb : textsB b) (p : Str) : textB (oneF o a b p).1 = true := by
  have eo := getT_text to p
  have ea := getT_text ta p
  have eb := getT_text tb p
  unfold oneF
  simp only
  cases same6 (getT a p) (getT o p) || same6 (getT a p) (getT b p) with
  | true => exact eb
  | false =>
    cases same6 (getT b p) (getT o p) with
    | true => exact ea
    | false =>
      cases !(getT a p).2 || !(getT b p).2 with
      | true => exact eo
      | false =>
        cases !(getT o p).2 with
        | true => rfl
        | false =>
          cases hl : (linesT (mergeF (getT o p).1 (getT a p).1 (getT b p).1)).2 with
          | true => exact linesT_ok hl
          | false => exact eo
def pathsF (o a b : List File) : List Str := (b.map (·.Path)).foldl insS ((a.map (·.Path)).foldl insS ((o.map (·.Path)).foldl insS []))
theorem foldS_asd : ∀ (ps : List Str) (l : List Str), Asd l → Asd (ps.foldl insS l)
  | [], l, h => h
  | p :: ps, l, h => foldS_asd ps _ (insS_asd _ _)
theorem foldS_len : ∀ (ps : List Str) (l : List Str), (ps.foldl insS l).length ≤ l.length + ps.length
  | [], l => by simp
  | p :: ps, l => by
    have h1 := foldS_len ps (insS l p)
    have h2 := insS_len l p
    simp only [List.foldl_cons, List.length_cons]
    omega
theorem foldS_mem : ∀ (ps : List Str) (l : List Str) (x : Str), x ∈ ps.foldl insS l ↔ x ∈ l ∨ x ∈ ps
  | [], l, x => by simp
  | p :: ps, l, x => by
    rw [List.foldl_cons, foldS_mem ps, insS_mem, List.mem_cons]
    constructor
    · rintro ((h | h) | h)
      · exact .inl h
      · exact .inr (.inl h)
      · exact .inr (.inr h)
    · rintro (h | h | h)
      · exact .inl (.inl h)
      · exact .inl (.inr h)
      · exact .inr h
theorem paths_loop {t : List File} (h : TB t) (ht : t.length ≤ 1000) {f : Nat → List Str → Int → Option (List Str)} {Z : List Str → Option (List Str)}
    (hs : ∀ m (i : Nat) x acc, t[i]? = some x → f (m + 1) acc (i : Int) = (spec_l5Put acc x.Path).bind fun z => f m z (w64 ((i : Int) + 1))) (he : ∀ m acc, f (m + 1) acc (t.length : Int) = Z acc) : ∀ (k i m : Nat) (acc : List Str), i + k = t.length → k < m → Asd acc → acc.length ≤ 10000 + i →
    f m acc (i : Int) = Z (((t.drop i).map (·.Path)).foldl insS acc)
  | k, i, 0, acc, _, hm, _, _ => by omega
  | 0, i, m + 1, acc, hi, _, _, _ => by
    obtain rfl : i = t.length := by omega
    rw [he, List.drop_length]; rfl
  | k + 1, i, m + 1, acc, hi, hm, ha, hl => by
    have hlt : i < t.length := by omega
    have hx : t[i]? = some t[i] := List.getElem?_eq_getElem hlt
    have hil := insS_len acc t[i].Path
    rw [hs m i _ acc hx, l5Put_eq (by omega) ha, Option.bind_some, w64_ix hlt h.maxi, paths_loop h ht hs he k (i + 1) m _ (by omega) (by omega) (insS_asd _ _) (by omega), List.drop_eq_getElem_cons hlt]
    rfl
theorem l6Paths_eq {o a b : List File} (ho : TB o) (ha : TB a) (hb : TB b) (so : o.length ≤ 100) (sa : a.length ≤ 100) (sb : b.length ≤ 100) : spec_l6Paths o a b = some (pathsF o a b) := by
  unfold spec_l6Paths pathsF
  simp only [jn, fuel0]
  have l1 := foldS_len (o.map (·.Path)) []
  have l2 := foldS_len (a.map (·.Path)) ((o.map (·.Path)).foldl insS [])
  have a0 : Asd ([] : List Str) := List.Pairwise.nil
  have a1 := foldS_asd (o.map (·.Path)) [] a0
  have a2 := foldS_asd (a.map (·.Path)) _ a1
  simp only [List.length_map, List.length_nil] at l1 l2
  have e3 := fun acc (h1 : Asd acc) (h2 : acc.length ≤ 10000) => paths_loop hb (by omega) (f := fun m acc i => spec_l6Paths_l3 b (fun y40 _ => some y40) m acc i) (Z := fun acc => some acc) (fun m i x acc hx => by simp only [spec_l6Paths_l3, lt_of hx, gi_of hx, cond_true, Option.bind_some]) (fun m acc => by simp only [spec_l6Paths_l3, end_of, cond_false]) b.length 0 (b.length + 1) acc (by omega) (by omega) h1 (by omega)
  have e2 := fun acc (h1 : Asd acc) (h2 : acc.length ≤ 10000) => paths_loop ha (by omega) (f := fun m acc i => spec_l6Paths_l2 a (fun y23 _ => spec_l6Paths_l3 b (fun y40 _ => some y40) (b.length + 1) y23 0) m acc i) (Z := fun acc => spec_l6Paths_l3 b (fun y40 _ => some y40) (b.length + 1) acc 0) (fun m i x acc hx => by simp only [spec_l6Paths_l2, lt_of hx, gi_of hx, cond_true, Option.bind_some]) (fun m acc => by simp only [spec_l6Paths_l2, end_of, cond_false]) a.length 0 (a.length + 1) acc (by omega) (by omega) h1 (by omega)
  have e1 := fun acc (h1 : Asd acc) (h2 : acc.length ≤ 10000) => paths_loop ho (by omega) (f := fun m acc i => spec_l6Paths_l1 o (fun y6 _ => spec_l6Paths_l2 a (fun y23 _ => spec_l6Paths_l3 b (fun y40 _ => some y40) (b.length + 1) y23 0) (a.length + 1) y6 0) m acc i) (Z := fun acc => spec_l6Paths_l2 a (fun y23 _ => spec_l6Paths_l3 b (fun y40 _ => some y40) (b.length + 1) y23 0) (a.length + 1) acc 0) (fun m i x acc hx => by simp only [spec_l6Paths_l1, lt_of hx, gi_of hx, cond_true, Option.bind_some]) (fun m acc => by simp only [spec_l6Paths_l1, end_of, cond_false]) o.length 0 (o.length + 1) acc (by omega) (by omega) h1 (by omega)
  refine (e1 [] a0 (by simp)).trans ?_
  rw [List.drop_zero]
  refine (e2 _ a1 (by omega)).trans ?_
  rw [List.drop_zero]
  refine (e3 _ a2 (by omega)).trans ?_
  rw [List.drop_zero]
theorem pathsF_len (o a b : List File) : (pathsF o a b).length ≤ o.length + a.length + b.length := by
  unfold pathsF
  have l1 := foldS_len (o.map (·.Path)) []
  have l2 := foldS_len (a.map (·.Path)) ((o.map (·.Path)).foldl insS [])
  have l3 := foldS_len (b.map (·.Path)) ((a.map (·.Path)).foldl insS ((o.map (·.Path)).foldl insS []))
  simp only [List.length_map, List.length_nil] at l1 l2 l3
  omega
theorem pathsF_mem {o a b : List File} {x : Str} : x ∈ pathsF o a b ↔ (∃ f ∈ o, f.Path = x) ∨ (∃ f ∈ a, f.Path = x) ∨ (∃ f ∈ b, f.Path = x) := by
  unfold pathsF
  rw [foldS_mem, foldS_mem, foldS_mem]
  simp only [List.mem_map, List.not_mem_nil, false_or]
  constructor
  · rintro ((h | h) | h)
    · exact .inl h
    · exact .inr (.inl h)
    · exact .inr (.inr h)
  · rintro (h | h | h)
    · exact .inl (.inl h)
    · exact .inl (.inr h)
    · exact .inr h
def fileO (o a b : List File) (p : Str) : Option File := bif (oneF o a b p).2.1 then some ⟨p, (oneF o a b p).1⟩ else none
def clashO (o a b : List File) (p : Str) : Option Clash := bif decide (0 < (oneF o a b p).2.2) then some ⟨p, (oneF o a b p).2.2⟩ else none
def filesJ (o a b : List File) : List File := (pathsF o a b).filterMap (fileO o a b)
def clashJ (o a b : List File) : List Clash := (pathsF o a b).filterMap (clashO o a b)
theorem join_loop {o a b : List File} (ho : TB o) (ha : TB a) (hb : TB b) (to : textsB o) (ta : textsB a) (tb : textsB b) {ps : List Str} (hp : ps.length ≤ 1000) : ∀ (k i m : Nat) (fs : List File) (cs : List Clash), i + k = ps.length → k < m → fs.length ≤ i → cs.length ≤ i →
    spec_l6Of_l1 o a b ps (fun y16 y19 _ => some (y16, y19)) m fs cs (i : Int) = some (fs ++ (ps.drop i).filterMap (fileO o a b), cs ++ (ps.drop i).filterMap (clashO o a b))
  | k, i, 0, fs, cs, _, hm, _, _ => by omega
  | 0, i, m + 1, fs, cs, hi, _, _, _ => by
    obtain rfl : i = ps.length := by omega
    simp only [spec_l6Of_l1, end_of, cond_false, List.drop_length]
    simp
  | k + 1, i, m + 1, fs, cs, hi, hm, hf, hc => by
    have hlt : i < ps.length := by omega
    have hx : ps[i]? = some ps[i] := List.getElem?_eq_getElem hlt
    have ih := fun fs cs h1 h2 => join_loop ho ha hb to ta tb hp k (i + 1) m fs cs (by omega) (by omega) h1 h2
    have ht := textB_len (oneF_text to ta tb ps[i])
    simp only [spec_l6Of_l1, jn, lt_of hx, gi_of hx, cond_true, Option.bind_some, w64_ix hlt (show ps.length ≤ maxi by unfold maxi; omega), l6One_eq ho ha hb to ta tb, apN (show (oneF o a b ps[i]).1.length ≤ 1048576 by omega), ap1 (x := (⟨ps[i], (oneF o a b ps[i]).1⟩ : File)) (show fs.length ≤ 1048576 by omega), ap1 (x := (⟨ps[i], (oneF o a b ps[i]).2.2⟩ : Clash)) (show cs.length ≤ 1048576 by omega)]
    rw [List.drop_eq_getElem_cons hlt, List.filterMap_cons, List.filterMap_cons]
    unfold fileO clashO at ih ⊢
    cases (oneF o a b ps[i]).2.1 <;> cases decide (0 < (oneF o a b ps[i]).2.2) <;> simp only [cond_true, cond_false]
    · rw [ih _ _ (by omega) (by omega)]
    · rw [ih _ _ (by omega) (by simp; omega)]; simp
    · rw [ih _ _ (by simp; omega) (by omega)]; simp
    · rw [ih _ _ (by simp; omega) (by simp; omega)]; simp
theorem l6Of_eq {o a b : List File} (ho : TB o) (ha : TB a) (hb : TB b) (to : textsB o) (ta : textsB a) (tb : textsB b) (so : o.length ≤ 100) (sa : a.length ≤ 100) (sb : b.length ≤ 100) : spec_l6Of o a b = some (filesJ o a b, clashJ o a b) := by
  have hl := pathsF_len o a b
  unfold spec_l6Of
  rw [l6Paths_eq ho ha hb so sa sb, Option.bind_some]
  simp only [jn, fuel0]
  have := join_loop ho ha hb to ta tb (ps := pathsF o a b) (by omega) (pathsF o a b).length 0 ((pathsF o a b).length + 1) [] [] (by omega) (by omega) (by simp) (by simp)
  refine this.trans ?_
  simp [filesJ, clashJ]
theorem filesJ_tb {o a b : List File} (ho : TB o) (ha : TB a) (hb : TB b) (to : textsB o) (ta : textsB a) (tb : textsB b) (so : o.length ≤ 100) (sa : a.length ≤ 100) (sb : b.length ≤ 100) : TB (filesJ o a b) := by
  have hl := pathsF_len o a b
  refine ⟨Nat.le_trans (List.length_filterMap_le _ _) (by omega), fun f hf => ?_⟩
  obtain ⟨p, hp, he⟩ := List.mem_filterMap.1 hf
  unfold fileO at he
  cases h2 : (oneF o a b p).2.1 with
  | false => rw [h2] at he; cases he
  | true =>
    rw [h2, cond_true] at he
    cases he
    have ht := oneF_text to ta tb p
    have hlen := textB_len ht
    refine ⟨?_, by show (oneF o a b p).1.length ≤ _; omega, fit_lines (s := (oneF o a b p).1) (by omega) (textB_line ht)⟩
    rcases pathsF_mem.1 hp with ⟨g, hg, e⟩ | ⟨g, hg, e⟩ | ⟨g, hg, e⟩
    · rw [← e]; exact (ho.2 g hg).path
    · rw [← e]; exact (ha.2 g hg).path
    · rw [← e]; exact (hb.2 g hg).path
def joinB (o a b : List File) : List File × List Clash := bif ((clashJ o a b).length : Int) == 0 && !treeB (filesJ o a b) then (o, [⟨[], 4⟩]) else (filesJ o a b, clashJ o a b)
theorem l6Join_eq {o a b : List File} (ho : TB o) (ha : TB a) (hb : TB b) (to : textsB o) (ta : textsB a) (tb : textsB b) (so : o.length ≤ 100) (sa : a.length ≤ 100) (sb : b.length ≤ 100) : spec_l6Join o a b = some (joinB o a b) := by
  unfold spec_l6Join joinB
  simp only [jn, l6Of_eq ho ha hb to ta tb so sa sb, Option.bind_some, l4Ok_eq (filesJ_tb ho ha hb to ta tb so sa sb), l4Copy_eq ho]
  cases (((clashJ o a b).length : Int) == 0) <;> cases treeB (filesJ o a b) <;> rfl
theorem joinB_tb {o a b : List File} (ho : TB o) (ha : TB a) (hb : TB b) (to : textsB o) (ta : textsB a) (tb : textsB b) (so : o.length ≤ 100) (sa : a.length ≤ 100) (sb : b.length ≤ 100) : TB (joinB o a b).1 := by
  unfold joinB
  cases (((clashJ o a b).length : Int) == 0 && !treeB (filesJ o a b))
  · exact filesJ_tb ho ha hb to ta tb so sa sb
  · exact ho
theorem tree_texts {t : List File} (h : treeB t = true) : textsB t := by
  intro f hf
  obtain ⟨i, hi⟩ := List.mem_iff_getElem?.1 hf
  unfold treeB at h
  simp only [Bool.and_eq_true] at h
  have := allN_iff.1 h.2 i (Nat.zero_le _) (by have := ix_of hi; omega)
  unfold sTree fileB at this
  rw [getF_of hi] at this
  simp only [Bool.and_eq_true] at this
  exact this.1.2.1
theorem tree_paths {t : List File} (h : treeB t = true) {f : File} (hf : f ∈ t) : pathB f.Path = true := by
  obtain ⟨i, hi⟩ := List.mem_iff_getElem?.1 hf
  unfold treeB at h
  simp only [Bool.and_eq_true] at h
  have := allN_iff.1 h.2 i (Nat.zero_le _) (by have := ix_of hi; omega)
  unfold sTree fileB at this
  rw [getF_of hi] at this
  simp only [Bool.and_eq_true] at this
  exact this.1.1
end Go.Vm
namespace Go.Vm
open Go Go.Sx
set_option linter.unusedSimpArgs false
set_option linter.unusedVariables false
theorem curS_sum (c : UInt8) : ∀ (r w : Str), w.length + r.length + 1 = sumB (fun p => p.length + 1) (curS c w r)
  | [], w => by simp [curS, sumB]
  | x :: r, w => by
    unfold curS
    cases x == c with
    | true =>
      rw [cond_true]
      have := curS_sum c r []
      simp only [sumB, List.length_nil, List.length_cons] at this ⊢
      omega
    | false =>
      rw [cond_false]
      have := curS_sum c r (w ++ [x])
      simp only [List.length_append, List.length_cons, List.length_nil] at this ⊢
      omega
theorem sum_le {c : Nat} : ∀ {l : List Str}, (∀ p ∈ l, p.length + 1 ≤ c) → sumB (fun p => p.length + 1) l ≤ c * l.length
  | [], _ => by simp [sumB]
  | x :: l, h => by
    have h1 := h x (by simp)
    have h2 := sum_le (c := c) (l := l) (fun p hp => h p (List.mem_cons_of_mem _ hp))
    simp only [sumB, List.length_cons, Nat.mul_add, Nat.mul_one]
    omega
theorem nameB_len {s : Str} (h : nameB s = true) : s.length ≤ 6 := by
  unfold nameB at h
  simp only [Bool.and_eq_true, decide_eq_true_eq] at h
  omega
theorem path_len {s : Str} (h : pathB s = true) : s.length ≤ 20 := by
  unfold pathB at h
  simp only [Bool.and_eq_true, decide_eq_true_eq, List.all_eq_true] at h
  have h1 := curS_sum 47 s []
  have h2 := sum_le (c := 7) (l := curS 47 [] s) (fun p hp => by have := nameB_len (h.2 p hp); omega)
  simp only [List.length_nil] at h1
  omega
end Go.Vm
namespace Go.Vm
open Go Go.Sx
set_option linter.unusedSimpArgs false
set_option linter.unusedVariables false
structure Gd (q : Prop) (r : Repo) : Prop where
  rb : RpB r
  ok : repoB r = true
  hd : q → r.Commits ≠ [] → r.Heads ≠ []
variable {q : Prop}
def treeAt (r : Repo) (i : Nat) : List File := (r.Commits.getD i noCommit).Tree
theorem Gd.tree {r : Repo} (h : Gd q r) {i : Nat} (hi : i < r.Commits.length) : TB (treeAt r i) ∧ treeB (treeAt r i) = true ∧ textsB (treeAt r i) ∧ (treeAt r i).length ≤ 8 := by
  have hx : r.Commits[i]? = some r.Commits[i] := List.getElem?_eq_getElem hi
  have h1 : treeB (treeAt r i) = true := by
    have := repo_com h.ok hi
    unfold comB at this
    simp only [Bool.and_eq_true] at this
    exact this.2.2.2.2
  refine ⟨?_, h1, tree_texts h1, tree_small h1⟩
  unfold treeAt
  rw [getC_of hx]
  exact (h.rb.cat hx).tree
theorem tree_nil : TB ([] : List File) ∧ treeB [] = true ∧ textsB [] ∧ ([] : List File).length ≤ 8 := ⟨TB.nil, rfl, fun f hf => by simp at hf, by simp⟩
theorem com_atI {r : Repo} {z : Int} (h0 : 0 ≤ z) (h1 : z ≤ (r.Commits.length : Int) - 1) : gi r.Commits z = some (r.Commits.getD z.toNat noCommit) := by
  obtain ⟨n, rfl⟩ := Int.eq_ofNat_of_zero_le h0
  exact com_at (by omega)
theorem putH_ne (n : Str) (a : Int) : ∀ (hs : List Head), putH n a false hs ≠ []
  | [] => by simp [putH]
  | h :: hs => by
    unfold putH
    cases hb : Op.bytesLess h.Name n
    · simp
    · have := putH_ne n a hs
      cases (h.Name != n) <;> simp [this]
def replH (n : Str) (a : Int) (h : Head) : Head := bif h.Name == n then ⟨n, a⟩ else h
theorem putH_true (n : Str) (a : Int) : ∀ (hs : List Head), (∀ h ∈ hs, h.Name ≠ n) → putH n a true hs = hs
  | [], _ => rfl
  | h :: hs, hn => by
    have h1 : (h.Name != n) = true := by simpa using hn h (by simp)
    unfold putH
    rw [h1, Bool.true_or, putH_true n a hs (fun x hx => hn x (List.mem_cons_of_mem _ hx))]
    rfl
theorem putH_there (n : Str) (a : Int) : ∀ (hs : List Head), hs.Pairwise (fun x y => x.Name < y.Name) → (∃ h ∈ hs, h.Name = n) → putH n a false hs = hs.map (replH n a)
  | [], _, h => by obtain ⟨x, hx, _⟩ := h; simp at hx
  | h :: hs, hp, he => by
    obtain ⟨p1, p2⟩ := List.pairwise_cons.1 hp
    unfold putH
    rw [List.map_cons]
    cases hb : Op.bytesLess h.Name n with
    | true =>
      rw [less_iff] at hb
      have hlt : h.Name < n := by simpa using hb
      have hne : h.Name ≠ n := fun e => by rw [e] at hlt; exact slt_irrefl _ hlt
      have h1 : (h.Name != n) = true := by simpa using hne
      have h2 : (h.Name == n) = false := beq_false_of_ne hne
      have ht : ∃ x ∈ hs, x.Name = n := by
        obtain ⟨x, hx, e⟩ := he
        rcases List.mem_cons.1 hx with e2 | e2
        · rw [e2] at e; exact absurd e hne
        · exact ⟨x, e2, e⟩
      rw [h1]
      simp only [Bool.not_true, Bool.and_false, cond_false, cond_true, List.nil_append, Bool.or_false, List.singleton_append]
      rw [putH_there n a hs p2 ht]
      unfold replH
      rw [h2]
      rfl
    | false =>
      rw [less_iff] at hb
      have hge : n ≤ h.Name := not_slt.1 (by simpa using hb)
      cases h2 : h.Name == n with
      | true =>
        have e : h.Name = n := by simpa using h2
        have h1 : (h.Name != n) = false := by rw [bne, h2]; rfl
        have hno : ∀ x ∈ hs, x.Name ≠ n := fun x hx e2 => by
          have := p1 x hx
          rw [e, e2] at this
          exact slt_irrefl _ this
        rw [h1, Bool.not_false, Bool.or_true, putH_true n a hs hno]
        have hm : hs.map (replH n a) = hs := by
          conv => rhs; rw [← List.map_id hs]
          refine List.map_congr_left (fun x hx => ?_)
          unfold replH
          rw [beq_false_of_ne (hno x hx)]
          rfl
        rw [hm]
        unfold replH
        rw [h2]
        rfl
      | false =>
        exfalso
        have hne : n ≠ h.Name := fun e => by rw [e] at h2; simp at h2
        have hlt := slt_of_le_ne hge hne
        obtain ⟨x, hx, e⟩ := he
        rcases List.mem_cons.1 hx with e2 | e2
        · rw [e2] at e; exact hne e.symm
        · have := p1 x e2
          rw [e] at this
          exact slt_irrefl _ (slt_trans hlt this)
theorem heads_asc {r : Repo} (h : repoB r = true) : r.Heads.Pairwise (fun x y => x.Name < y.Name) := by
  unfold repoB headsB at h
  simp only [Bool.and_eq_true] at h
  have hg := allN_iff.1 h.2.2.1
  have step : ∀ i, (hi : i + 1 < r.Heads.length) → (r.Heads[i]'(by omega)).Name < r.Heads[i + 1].Name := fun i hi => by
    have := hg (i + 1) (by omega) (by omega)
    unfold headB at this
    rw [getH_of (List.getElem?_eq_getElem hi), decide_eq_true (by omega), Nat.add_sub_cancel, getH_of (List.getElem?_eq_getElem (show i < r.Heads.length by omega))] at this
    simp only [cond_true, Bool.and_eq_true, less_iff, decide_eq_true_eq] at this
    exact this.2.2
  refine List.pairwise_iff_getElem.2 fun i j hi hj hij => ?_
  induction j with
  | zero => omega
  | succ j ih =>
    rcases Nat.lt_or_ge i j with h1 | h1
    · exact slt_trans (ih (by omega) h1) (step j hj)
    · have : i = j := by omega
      subst this
      exact step i hj
def tryAdd (r : Repo) (n : Str) (c : Commit) : Repo × Int := bif repoB (addR r n c) then (addR r n c, 0) else (r, 5)
theorem Gd.add {r : Repo} (h : Gd q r) {n : Str} {c : Commit} (hn : n.length ≤ 1048576) (hc : CB c) (ho : repoB (addR r n c) = true) : Gd q (addR r n c) := by
  obtain ⟨s1, s2⟩ := repo_small h.ok
  exact ⟨h.rb.addR (by omega) (by omega) hn hc, ho, fun _ _ => putH_ne _ _ _⟩
theorem Gd.head {r : Repo} (h : Gd q r) {n : Str} {b : Int} (hn : n.length ≤ 1048576) (ho : repoB (headR r n b) = true) : Gd q (headR r n b) := by
  obtain ⟨s1, s2⟩ := repo_small h.ok
  exact ⟨h.rb.headR (by omega) hn b, ho, fun _ _ => putH_ne _ _ _⟩
theorem tryAdd_good {r : Repo} (h : Gd q r) {n : Str} {c : Commit} (hn : n.length ≤ 1048576) (hc : CB c) : Gd q (tryAdd r n c).1 := by
  unfold tryAdd
  cases ho : repoB (addR r n c) with
  | true => exact h.add hn hc ho
  | false => exact h
theorem tryAdd_eq {r : Repo} (h : Gd q r) {n : Str} {c : Commit} (hn : n.length ≤ 1048576) (hc : CB c) : ((spec_l7Add r n c).bind fun z130 => (spec_l7Ok z130).bind fun z163 => bif (!z163) then (some (r, (5 : Int))) else (some (z130, 0))) = some (tryAdd r n c) := by
  obtain ⟨s1, s2⟩ := repo_small h.ok
  rw [l7Add_eq h.rb (by omega) (by omega) n hc, Option.bind_some, l7Ok_eq (h.rb.addR (by omega) (by omega) hn hc), Option.bind_some]
  unfold tryAdd
  cases repoB (addR r n c) <;> rfl
def badN (r : Repo) (n who : Str) (b : Int) : Bool := decide (atB r n < 0) || (!nameB who || !upB r.Commits.length b)
theorem bad_not {r : Repo} {n who : Str} {b : Int} (h : badN r n who b = false) : 0 ≤ atB r n ∧ 0 ≤ b ∧ b ≤ (r.Commits.length : Int) - 1 := by
  unfold badN upB at h
  simp only [Bool.or_eq_false_iff, decide_eq_false_iff_not, Bool.not_eq_false', Bool.and_eq_true, decide_eq_true_eq] at h
  omega
def aheadT (r : Repo) (i : Nat) : List File := bif ((parsAt r i).length : Int) == 0 then [] else treeAt r ((parsAt r i).getD 0 0).toNat
theorem l10Ahead_eq {r : Repo} (h : Gd q r) {a : Int} (h0 : 0 ≤ a) (h1 : a ≤ (r.Commits.length : Int) - 1) : spec_l10Ahead r a = some (aheadT r a.toNat) ∧ TB (aheadT r a.toNat) ∧ treeB (aheadT r a.toNat) = true := by
  have hi : a.toNat < r.Commits.length := by omega
  obtain ⟨ps, pm⟩ := pars_small h.ok hi
  unfold spec_l10Ahead aheadT
  rw [com_atI h0 h1, Option.bind_some]
  show (bif ((parsAt r a.toNat).length : Int) == 0 then _ else _) = _ ∧ _
  cases hz : ((parsAt r a.toNat).length : Int) == 0 with
  | true => exact ⟨rfl, tree_nil.1, tree_nil.2.1⟩
  | false =>
    have hne : ((parsAt r a.toNat).length : Int) ≠ 0 := by simpa using hz
    have hlt : 0 < (parsAt r a.toNat).length := by omega
    have hm : (parsAt r a.toNat).getD 0 0 ∈ parsAt r a.toNat := by
      rw [getI_of (List.getElem?_eq_getElem hlt)]; exact List.getElem_mem hlt
    obtain ⟨q0, q1⟩ := pm _ hm
    have hg : gi (r.Commits.getD a.toNat noCommit).Parents 0 = some ((parsAt r a.toNat).getD 0 0) := gi_getI (l := parsAt r a.toNat) hlt
    rw [cond_false, cond_false, Option.bind_some, hg, Option.bind_some, com_atI q0 (by omega), Option.bind_some]
    have := h.tree (i := ((parsAt r a.toNat).getD 0 0).toNat) (by omega)
    exact ⟨rfl, this.1, this.2.1⟩
def pickB (r : Repo) (n who : Str) (o b : List File) : Repo × Int :=
  let j := joinB o (treeAt r (atB r n).toNat) b
  bif decide (0 < (j.2.length : Int)) then (r, 4) else tryAdd r n ⟨[atB r n], who, j.1⟩
theorem l10Put_eq {r : Repo} (h : Gd q r) {n who : Str} {o b : List File} (hn : n.length ≤ 1048576) (hw : who.length ≤ 1048576) (ha : 0 ≤ atB r n) (to : TB o) (to2 : treeB o = true) (tb : TB b) (tb2 : treeB b = true) : spec_l10Put r n who o b = some (pickB r n who o b) ∧ Gd q (pickB r n who o b).1 := by
  have ha' : atB r n ≤ (r.Commits.length : Int) - 1 := by rcases at_range h.ok n with e | e <;> omega
  have hs := (repo_small h.ok).1
  obtain ⟨ta, ta2, ta3, ta4⟩ := h.tree (i := (atB r n).toNat) (by omega)
  have ho := tree_small to2
  have hb := tree_small tb2
  have hj := joinB_tb to ta tb (tree_texts to2) ta3 (tree_texts tb2) (by omega) (by omega) (by omega)
  have hc : CB ⟨[atB r n], who, (joinB o (treeAt r (atB r n).toNat) b).1⟩ := ⟨by simp, hw, hj⟩
  have hjoin := l6Join_eq to ta tb (tree_texts to2) ta3 (tree_texts tb2) (by omega) (by omega) (by omega)
  unfold spec_l10Put pickB
  rw [l7At_eq h.rb, Option.bind_some, com_atI ha ha', Option.bind_some]
  unfold treeAt at hjoin hc ⊢
  rw [hjoin, Option.bind_some]
  simp only
  cases decide (0 < ((joinB o (r.Commits.getD (atB r n).toNat noCommit).Tree b).2.length : Int)) with
  | true => exact ⟨rfl, h⟩
  | false => exact ⟨tryAdd_eq h hn hc, tryAdd_good h hn hc⟩
def pickBk (r : Repo) (n who : Str) (b : Int) : Repo × Int := bif repoB r then (bif badN r n who b then (r, 1) else pickB r n who (treeAt r b.toNat) (aheadT r b.toNat)) else (zeroR, 1)
theorem sPickBack_eq {r : Repo} (h : Gd q r) {n who : Str} {b : Int} (hn : n.length ≤ 1048576) (hw : who.length ≤ 1048576) : spec_PickBack r n who b = some (pickBk r n who b) ∧ Gd q (pickBk r n who b).1 := by
  unfold spec_PickBack pickBk
  have hwm := to_maxi hw
  rw [l7Ok_eq h.rb, Option.bind_some, h.ok, Bool.not_true, cond_false, cond_true]
  simp only [jn, l7At_eq h.rb, Option.bind_some, l4Name_eq hwm, l1In_eq, low_ix (to_maxi h.rb.coms), l7Copy_eq h.rb, show (⟨r.Commits, r.Heads⟩ : Repo) = r from rfl]
  rw [show (decide ((0 : Int) ≤ b) && decide (b ≤ (r.Commits.length : Int) - 1)) = upB r.Commits.length b from rfl]
  have key : badN r n who b = false → ((gi r.Commits b).bind fun u77 => (spec_l10Ahead r b).bind fun z82 => (spec_l10Put r n who u77.Tree z82).bind fun z93 => some (z93.1, z93.2)) = some (pickB r n who (treeAt r b.toNat) (aheadT r b.toNat)) ∧ Gd q (pickB r n who (treeAt r b.toNat) (aheadT r b.toNat)).1 := fun hbad => by
    obtain ⟨p1, p2, p3⟩ := bad_not hbad
    obtain ⟨q1, q2, q3⟩ := l10Ahead_eq h p2 p3
    obtain ⟨tb, tb2, tb3, tb4⟩ := h.tree (i := b.toNat) (by have := (repo_small h.ok).1; omega)
    obtain ⟨u1, u2⟩ := l10Put_eq h hn hw p1 tb tb2 q2 q3
    rw [com_atI p2 p3, Option.bind_some, q1, Option.bind_some, show (r.Commits.getD b.toNat noCommit).Tree = treeAt r b.toNat from rfl, u1]
    exact ⟨rfl, u2⟩
  unfold badN at key ⊢
  cases h1 : decide (atB r n < 0) with
  | true => exact ⟨rfl, h⟩
  | false =>
    cases h2 : nameB who with
    | false => exact ⟨rfl, h⟩
    | true =>
      cases h3 : upB r.Commits.length b with
      | false => exact ⟨rfl, h⟩
      | true => exact key (by rw [h1, h2, h3]; rfl)
end Go.Vm
namespace Go.Vm
open Go Go.Sx
set_option linter.unusedSimpArgs false
set_option linter.unusedVariables false
inductive Rc (r : Repo) : Nat → Nat → Prop
  | refl (a : Nat) : Rc r a a
  | step {a b : Nat} {p : Int} : Rc r a b → p ∈ parsAt r b → Rc r a p.toNat
theorem Rc.trans {r : Repo} {a b c : Nat} (h : Rc r a b) (k : Rc r b c) : Rc r a c := by
  induction k with
  | refl => exact h
  | step _ hp ih => exact Rc.step ih hp
theorem Rc.head {r : Repo} {a c : Nat} (h : Rc r a c) : c = a ∨ ∃ p ∈ parsAt r a, Rc r p.toNat c := by
  induction h with
  | refl => exact .inl rfl
  | @step b p hb hp ih =>
    rcases ih with e | ⟨q, hq, hc⟩
    · subst e
      exact .inr ⟨p, hp, Rc.refl _⟩
    · exact .inr ⟨q, hq, Rc.step hc hp⟩
theorem Rc.le {r : Repo} (hr : repoB r = true) {a c : Nat} (ha : a < r.Commits.length) (h : Rc r a c) : c ≤ a ∧ c < r.Commits.length := by
  induction h with
  | refl => exact ⟨Nat.le_refl _, ha⟩
  | step _ hp ih =>
    have := (pars_small hr ih.2).2 _ hp
    omega
def AscI (l : List Int) : Prop := l.Pairwise (· < ·)
theorem AscI.ext : ∀ {xs ys : List Int}, AscI xs → AscI ys → (∀ a, a ∈ xs ↔ a ∈ ys) → xs = ys
  | [], [], _, _, _ => rfl
  | [], y :: ys, _, _, h => by have := (h y).2 (by simp); simp at this
  | x :: xs, [], _, _, h => by have := (h x).1 (by simp); simp at this
  | x :: xs, y :: ys, hx, hy, h => by
    have hx' := List.pairwise_cons.1 hx
    have hy' := List.pairwise_cons.1 hy
    have e : x = y := by
      rcases List.mem_cons.1 ((h x).1 (by simp)) with e | hm
      · exact e
      · rcases List.mem_cons.1 ((h y).2 (by simp)) with e | hm2
        · exact e.symm
        · have h1 := hx'.1 y hm2
          have h2 := hy'.1 x hm
          omega
    subst e
    rw [AscI.ext hx'.2 hy'.2 (fun a => by
      constructor
      · intro ha
        rcases List.mem_cons.1 ((h a).1 (List.mem_cons_of_mem _ ha)) with e2 | e2
        · have := hx'.1 a ha; omega
        · exact e2
      · intro ha
        rcases List.mem_cons.1 ((h a).2 (List.mem_cons_of_mem _ ha)) with e2 | e2
        · have := hy'.1 a ha; omega
        · exact e2)]
end Go.Vm
namespace Go.Vm
open Go Go.Sx
set_option linter.unusedSimpArgs false
set_option linter.unusedVariables false
theorem ifirst_eq {r : Repo} (hr : repoB r = true) {a : Nat} (ha : a < r.Commits.length) : impl_Repo_first r (a : Int) = some (match parsAt r a with | [] => -1 | p :: _ => p) := by
  have e : (r.Commits.getD a noCommit).Parents = parsAt r a := rfl
  unfold impl_Repo_first
  simp only [com_at ha, Option.bind_some, e]
  cases hp : parsAt r a with
  | nil => rfl
  | cons p ps =>
    have hz : (((p :: ps).length : Int) == (0 : Int)) = false := by
      rw [beq_eq_false_iff_ne]
      simp only [List.length_cons]
      omega
    rw [hz, cond_false, show gi (p :: ps) 0 = some p from rfl, Option.bind_some]
end Go.Vm
namespace Go.Vm
open Go Go.Sx
set_option linter.unusedSimpArgs false
set_option linter.unusedVariables false
theorem TB.of {t : List File} (hf : Bk.fit t) (h : Bk.bulk t ≤ 1048576) : TB t := ⟨bulk_len h, fun f hm => by
  have h1 : Bk.bulk f ≤ 1048576 := bulk_mem h hm
  have h2 : Bk.bulk f = f.Path.length + Bk.bulk f.Text := rfl
  exact ⟨by omega, bulk_len (show Bk.bulk f.Text ≤ 1048576 by omega), (hf.2 f hm).2⟩⟩
theorem RpB.of {r : Repo} (hf : Bk.fit r) (h : Bk.bulk r ≤ 1048576) : RpB r := by
  have h0 : Bk.bulk r = Bk.bulk r.Commits + Bk.bulk r.Heads := rfl
  have hc : Bk.bulk r.Commits ≤ 1048576 := by omega
  have hh : Bk.bulk r.Heads ≤ 1048576 := by omega
  refine ⟨bulk_len hc, fun c hm => ?_, bulk_len hh, fun x hm => ?_⟩
  · have h1 : Bk.bulk c ≤ 1048576 := bulk_mem hc hm
    have h2 : Bk.bulk c = Bk.bulk c.Parents + (c.Who.length + Bk.bulk c.Tree) := rfl
    exact ⟨bulk_len (show Bk.bulk c.Parents ≤ 1048576 by omega), by omega, TB.of (hf.1.2 c hm).2.2 (by omega)⟩
  · have h1 : Bk.bulk x ≤ 1048576 := bulk_mem hh hm
    have h2 : Bk.bulk x = x.Name.length + 0 := rfl
    omega
theorem rOwn_eq {r : Repo} (h : RpB r) : impl_Repo_own r = some r := by
  have hm := to_maxi h.coms
  have hl := h.coms
  unfold impl_Repo_own
  simp only [jn, fuel0, apN h.heads, Option.bind_some]
  rw [loop_filter (xs := r.Commits) (p := fun _ => true) (g := fun f : Commit => f) (Z := fun acc => some (Repo.mk acc r.Heads)) (f := fun m acc i => impl_Repo_own_l1 r _ m i acc r.Heads) (fun m i x acc hx ha => by
    have hi := ix_of hx
    have hc := h.cat hx
    simp only [impl_Repo_own_l1, lt_of hx, gi_of hx, cond_true, Option.bind_some, w64_ix hi hm, apN hc.par, copyTree_eq hc.tree, ap1 (show acc.length ≤ 1048576 by omega)]) (fun m acc => by simp only [impl_Repo_own_l1, end_of, cond_false]) (by omega)]
  rw [show ((r.Commits.filter fun _ => true).map fun f : Commit => f) = r.Commits by simp]
end Go.Vm
namespace Go.Vm
open Go Go.Sx
set_option linter.unusedSimpArgs false
set_option linter.unusedVariables false
theorem putH_split (n : Str) (a : Int) : ∀ (A B : List Head), (∀ h ∈ A, h.Name < n) → (∀ h ∈ B, n < h.Name) → putH n a false (A ++ B) = A ++ [⟨n, a⟩] ++ B
  | [], [], _, _ => rfl
  | [], h :: B, _, hB => by
    have h1 := hB h (by simp)
    have h2 : Op.bytesLess h.Name n = false := by
      rw [less_iff, decide_eq_false_iff_not]
      exact fun e => slt_irrefl _ (slt_trans e h1)
    have h3 : (h.Name != n) = true := by
      rw [bne_iff_ne]
      exact fun e => by rw [e] at h1; exact slt_irrefl _ h1
    show putH n a false (h :: B) = _
    unfold putH
    rw [h2, h3, Bool.not_false, Bool.and_true, Bool.false_or, cond_true, cond_true, putH_true n a B fun x hx e => by
      have := hB x (by simp [hx])
      rw [e] at this
      exact slt_irrefl _ this]
    rfl
  | h :: A, B, hA, hB => by
    have h1 := hA h (by simp)
    have h2 : Op.bytesLess h.Name n = true := by rw [less_iff]; simpa using h1
    have h3 : (h.Name != n) = true := by
      rw [bne_iff_ne]
      exact fun e => by rw [e] at h1; exact slt_irrefl _ h1
    show putH n a false (h :: (A ++ B)) = _
    unfold putH
    rw [h2, h3, Bool.not_true, Bool.and_false, Bool.or_false, cond_false, cond_true, putH_split n a A B (fun x hx => hA x (by simp [hx])) hB]
    rfl
def downH (n : Str) (hs : List Head) : Nat → Nat
  | 0 => 0
  | k + 1 => bif Op.bytesLess n (hs.getD k noHead).Name then downH n hs k else k + 1
theorem ins_l1 {hs : List Head} (hl : hs.length ≤ 1048576) {x : Head} {K : Int → Option (List Head)} : ∀ (k m : Nat), k ≤ hs.length → k < m → impl_insertHead_l1 hs x K m (k : Int) = K (downH x.Name hs k : Int)
  | k, 0, _, hm => by omega
  | 0, m + 1, _, _ => rfl
  | k + 1, m + 1, hk, hm => by
    have hx : hs[k]? = some hs[k] := List.getElem?_eq_getElem (by omega)
    have hw : w64 (((k + 1 : Nat) : Int) - 1) = (k : Int) := by rw [w64_id (by omega) (by omega)]; omega
    simp only [impl_insertHead_l1, jn, hw, gi_of hx, Option.bind_some, le_less2, Bool.not_not]
    rw [decide_eq_true (by omega), cond_true]
    unfold downH
    rw [getH_of hx]
    cases Op.bytesLess x.Name hs[k].Name with
    | true => rw [cond_true, cond_true, ins_l1 hl k m (by omega) (by omega)]
    | false => rfl
theorem downH_spec {n : Str} {hs : List Head} (hp : hs.Pairwise (fun x y => x.Name < y.Name)) (hno : ∀ h ∈ hs, h.Name ≠ n) : ∀ k, k ≤ hs.length → downH n hs k ≤ k ∧ (∀ h ∈ hs.take (downH n hs k), h.Name < n) ∧ ∀ i h, downH n hs k ≤ i → i < k → hs[i]? = some h → n < h.Name
  | 0, _ => ⟨Nat.le_refl _, fun h hh => by simp [downH] at hh, fun i h _ hi _ => by omega⟩
  | k + 1, hk => by
    have hx : hs[k]? = some hs[k] := List.getElem?_eq_getElem (by omega)
    unfold downH
    rw [getH_of hx]
    cases hb : Op.bytesLess n hs[k].Name with
    | true =>
      rw [cond_true]
      obtain ⟨h1, h2, h3⟩ := downH_spec hp hno k (by omega)
      refine ⟨by omega, h2, fun i h hi hik hh => ?_⟩
      rcases Nat.lt_or_ge i k with h4 | h4
      · exact h3 i h hi h4 hh
      · obtain rfl : i = k := by omega
        rw [hx] at hh
        cases hh
        rw [less_iff] at hb
        simpa using hb
    | false =>
      rw [cond_false]
      have hlast : hs[k].Name < n := by
        rw [less_iff] at hb
        exact slt_of_le_ne (not_slt.1 (by simpa using hb)) (hno _ (List.getElem_mem _))
      refine ⟨Nat.le_refl _, fun h hh => ?_, fun i h h1 h2 _ => by omega⟩
      obtain ⟨i, hi⟩ := List.getElem?_of_mem hh
      rw [List.getElem?_take] at hi
      split at hi
      · rename_i hik
        obtain ⟨hlt, rfl⟩ := List.getElem?_eq_some_iff.1 hi
        rcases Nat.lt_or_ge i k with h4 | h4
        · exact slt_trans (List.pairwise_iff_getElem.1 hp i k hlt (by omega) h4) hlast
        · obtain rfl : i = k := by omega
          exact hlast
      · cases hi
theorem insertHead_eq {hs : List Head} (hl : hs.length ≤ 1048576) {n : Str} {a : Int} (hp : hs.Pairwise (fun x y => x.Name < y.Name)) (hno : ∀ h ∈ hs, h.Name ≠ n) : impl_insertHead hs ⟨n, a⟩ = some (putH n a false hs) := by
  obtain ⟨h1, h2, h3⟩ := downH_spec hp hno hs.length (Nat.le_refl _)
  unfold impl_insertHead
  simp only [jn]
  rw [ins_l1 hl hs.length (hs.length + 1) (Nat.le_refl _) (by omega), apN hl, Option.bind_some]
  show (slices_Insert_impl_Head_impl_Head hs (downH n hs hs.length : Int) ⟨n, a⟩).bind _ = _
  unfold slices_Insert_impl_Head_impl_Head
  rw [if_pos ⟨by omega, by omega, by unfold lim; omega⟩, Option.bind_some, Int.toNat_natCast]
  have := putH_split n a (hs.take (downH n hs hs.length)) (hs.drop (downH n hs hs.length)) h2 (fun h hh => by
    obtain ⟨i, hi⟩ := List.getElem?_of_mem hh
    rw [List.getElem?_drop] at hi
    exact h3 _ h (by omega) (List.getElem?_eq_some_iff.1 hi).1 hi)
  rw [List.take_append_drop] at this
  rw [this]
theorem point_eq {r : Repo} (h : RpB r) {n : Str} {a : Int} (hp : r.Heads.Pairwise (fun x y => x.Name < y.Name)) (hno : ∀ x ∈ r.Heads, x.Name ≠ n) : impl_Repo_point r n a = some (headR r n a) := by
  have hm := to_maxi h.heads
  unfold impl_Repo_point
  simp only [jn, fuel0]
  rw [loop_find (p := fun _ : Head => false) (xs := r.Heads) (r := fun _ => none) (Z := some (headR r n a)) (f := fun m k => impl_Repo_point_l1 r n a _ m k [] [] r.Heads) (fun m i x hx => by
    have : (x.Name == n) = false := beq_false_of_ne (hno x (List.mem_of_getElem? hx))
    simp only [impl_Repo_point_l1, lt_of hx, gi_of hx, cond_true, cond_false, Option.bind_some, w64_ix (ix_of hx) hm, this]) (fun m => by
    simp only [impl_Repo_point_l1, end_of, cond_false, insertHead_eq h.heads hp hno, Option.bind_some]
    rfl) (by omega)]
  rw [show r.Heads.find? (fun _ => false) = none by simp]
theorem tried_eq {r y : Repo} (h : RpB r) (hy : RpB y) : impl_Repo_tried r y = some (bif repoB y then (y, true) else (r, false)) := by
  unfold impl_Repo_tried
  rw [show (⟨y.Commits, y.Heads⟩ : Repo) = y from rfl, RepoOk_eq hy, Option.bind_some]
  cases repoB y with
  | true => rfl
  | false => rw [Bool.not_false, cond_true, cond_false, rOwn_eq h]; rfl
end Go.Vm
namespace Go.Vm
open Go Go.Sx
set_option linter.unusedSimpArgs false
set_option linter.unusedVariables false
theorem set_replH {n : Str} {a : Int} : ∀ (hs : List Head) (j : Nat) (x : Head), hs.Pairwise (fun x y => x.Name < y.Name) → hs[j]? = some x → x.Name = n → hs.set j ⟨x.Name, a⟩ = hs.map (replH n a)
  | [], j, x, _, h, _ => by simp at h
  | h :: hs, 0, x, hp, e, hn => by
    obtain rfl : h = x := by simpa using e
    rw [List.set_cons_zero, List.map_cons]
    have ht : hs.map (replH n a) = hs := by
      conv => rhs; rw [← List.map_id hs]
      refine List.map_congr_left (fun y hy => ?_)
      have h1 := (List.pairwise_cons.1 hp).1 y hy
      unfold replH
      rw [beq_false_of_ne (fun e2 => by rw [hn, e2] at h1; exact slt_irrefl _ h1)]
      rfl
    rw [ht]
    unfold replH
    rw [hn, beq_self_eq_true]
    rfl
  | h :: hs, j + 1, x, hp, e, hn => by
    rw [List.getElem?_cons_succ] at e
    have h1 := (List.pairwise_cons.1 hp).1 x (List.mem_of_getElem? e)
    rw [List.set_cons_succ, List.map_cons, set_replH hs j x (List.pairwise_cons.1 hp).2 e hn]
    congr 1
    unfold replH
    rw [beq_false_of_ne (fun e2 => by rw [hn, e2] at h1; exact slt_irrefl _ h1)]
    rfl
theorem point_l1 {r : Repo} (h : RpB r) {n : Str} {a : Int} {K : Int → List Commit → List Head → List Head → Option Repo} (hp : r.Heads.Pairwise (fun x y => x.Name < y.Name)) (he : ∃ x ∈ r.Heads, x.Name = n) : ∀ (k i m : Nat), i + k = r.Heads.length → k < m → (∀ j x, j < i → r.Heads[j]? = some x → x.Name ≠ n) →
    impl_Repo_point_l1 r n a K m (i : Int) [] [] r.Heads = some ⟨r.Commits, r.Heads.map (replH n a)⟩
  | k, i, 0, _, hm, _ => by omega
  | 0, i, m + 1, hi, _, hno => by
    obtain ⟨x, hx, e⟩ := he
    obtain ⟨j, hj⟩ := List.getElem?_of_mem hx
    exact absurd e (hno j x (by have := ix_of hj; omega) hj)
  | k + 1, i, m + 1, hi, hm, hno => by
    have hlt : i < r.Heads.length := by omega
    have hx : r.Heads[i]? = some r.Heads[i] := List.getElem?_eq_getElem hlt
    simp only [impl_Repo_point_l1, lt_of hx, gi_of hx, cond_true, Option.bind_some, w64_ix hlt (to_maxi h.heads), siM_of hlt]
    cases hb : r.Heads[i].Name == n with
    | true => rw [cond_true, set_replH r.Heads i _ hp hx (by simpa using hb)]
    | false =>
      rw [cond_false]
      exact point_l1 h hp he k (i + 1) m (by omega) (by omega) fun j x hj hjx => by
        rcases Nat.lt_or_ge j i with h1 | h1
        · exact hno j x h1 hjx
        · obtain rfl : j = i := by omega
          rw [hx] at hjx
          cases hjx
          exact fun e => by simp [e] at hb
theorem point_any {r : Repo} (h : RpB r) (hp : r.Heads.Pairwise (fun x y => x.Name < y.Name)) (n : Str) (a : Int) : impl_Repo_point r n a = some (headR r n a) := by
  by_cases he : ∃ x ∈ r.Heads, x.Name = n
  · unfold headR
    rw [putH_there n a r.Heads hp he]
    unfold impl_Repo_point
    simp only [jn, fuel0]
    exact point_l1 h hp he r.Heads.length 0 (r.Heads.length + 1) (by omega) (by omega) (fun j x hj => by omega)
  · exact point_eq h hp fun x hx e => he ⟨x, hx, e⟩
end Go.Vm
namespace Go.Vm
open Go Go.Sx
set_option linter.unusedSimpArgs false
set_option linter.unusedVariables false
theorem iCommit_eq {r : Repo} (h : RpB r) (hl : r.Commits.length ≤ 100000) (hp : r.Heads.Pairwise (fun x y => x.Name < y.Name)) {n who : Str} {t : List File} {ps : List Int} (ht : TB t) (hw : who.length ≤ 1048576) (hps : ps.length ≤ 1048576) :
    impl_Repo_commit r n who t ps = some (addR r n ⟨ps, who, t⟩) := by
  have hc : CB ⟨ps, who, t⟩ := ⟨hps, hw, ht⟩
  unfold impl_Repo_commit
  rw [copyTree_eq ht, Option.bind_some, ap1 h.coms, Option.bind_some]
  have e : w64 (((r.Commits ++ [Commit.mk ps who t]).length : Int) - 1) = (r.Commits.length : Int) := by rw [w64_id (by omega) (by simp; omega)]; simp
  rw [e, point_any (h.push hc hl) hp, Option.bind_some]
  rfl
end Go.Vm
namespace Go.Vm
open Go Go.Sx
set_option linter.unusedSimpArgs false
set_option linter.unusedVariables false
def fit64 (p : Int) : Prop := -9223372036854775808 ≤ p ∧ p ≤ 9223372036854775807
section
variable {r : Repo} {has : List Int} {sent : List Commit}
end
end Go.Vm
namespace Go.Vm
open Go Go.Sx
set_option linter.unusedSimpArgs false
set_option linter.unusedVariables false
set_option linter.unusedSectionVars false
structure SentB (sent : List Commit) : Prop where
  len : sent.length ≤ 16
  cb : ∀ c ∈ sent, CB c
  fit : ∀ c ∈ sent, ∀ p ∈ c.Parents, fit64 p
theorem SentB.take {sent : List Commit} (h : SentB sent) (k : Nat) : SentB (sent.take k) :=
  ⟨Nat.le_trans (List.length_take_le' k sent) h.len, fun c hc => h.cb c (List.mem_of_mem_take hc), fun c hc => h.fit c (List.mem_of_mem_take hc)⟩
theorem SentB.set {sent : List Commit} (h : SentB sent) {c : Commit} (hc : CB c) (hf : ∀ p ∈ c.Parents, fit64 p) (k : Nat) : SentB (sent.set k c) :=
  ⟨by rw [List.length_set]; exact h.len, fun d hd => by
    rcases List.mem_or_eq_of_mem_set hd with q | q
    · exact h.cb d q
    · rw [q]; exact hc, fun d hd => by
    rcases List.mem_or_eq_of_mem_set hd with q | q
    · exact h.fit d q
    · rw [q]; exact hf⟩
section
variable {x : Repo} (hr : repoB x = true) {a b : Int} (ha : upB x.Commits.length a = true) (hb : upB x.Commits.length b = true)
include hr ha
include hb
end
end Go.Vm
namespace Go.Vm
open Go Go.Sx
set_option linter.unusedSimpArgs false
set_option linter.unusedVariables false
theorem getT_no {t : List File} {p : Str} (h : (getT t p).2 = false) : (getT t p).1 = [] := by
  unfold getT at *
  cases hf : t.find? (fun f => f.Path == p) with
  | none => rfl
  | some f => rw [hf] at h; cases h
theorem same6_dec {a b : List File} {p : Str} : same6 (getT a p) (getT b p) = decide (getT a p = getT b p) := by
  have ha := getT_no (t := a) (p := p)
  have hb := getT_no (t := b) (p := p)
  revert ha hb
  generalize getT a p = x
  generalize getT b p = y
  intro ha hb
  obtain ⟨x1, x2⟩ := x
  obtain ⟨y1, y2⟩ := y
  unfold same6
  cases x2 <;> cases y2
  · have e1 : x1 = [] := ha rfl
    have e2 : y1 = [] := hb rfl
    subst e1; subst e2; simp
  · simp
  · simp
  · by_cases h : x1 = y1
    · subst h; simp
    · have e : (x1 == y1) = false := beq_false_of_ne h
      simp [e, h]
theorem pathsF_asd (o a b : List File) : Asd (pathsF o a b) := foldS_asd _ _ (foldS_asd _ _ (foldS_asd _ _ List.Pairwise.nil))
end Go.Vm
namespace Go.Vm
open Go Go.Sx
set_option linter.unusedSimpArgs false
set_option linter.unusedVariables false
theorem sumB_top {α : Type} {f : α → Nat} {c : Nat} : ∀ {t : List α}, (∀ s ∈ t, f s ≤ c) → sumB f t ≤ c * t.length
  | [], _ => by simp [sumB]
  | x :: t, h => by
    have h1 := h x (by simp)
    have h2 := sumB_top (t := t) (fun s hs => h s (by simp [hs]))
    simp only [sumB, List.length_cons, Nat.mul_add, Nat.mul_one]
    omega
theorem text_top {t : List Str} (h : textB t = true) : Bk.bulk t ≤ 130 := by
  have hl := textB_len h
  have hs : sumB Bk.bulk t ≤ 12 * t.length := sumB_top fun s hs => by
    have := lineB_len (textB_line h s hs)
    show s.length ≤ 12
    omega
  show t.length + sumB Bk.bulk t ≤ 130
  omega
theorem tree_max {t : List File} (h : treeB t = true) : Bk.bulk t ≤ 1208 := by
  have hl := tree_small h
  have hs : sumB Bk.bulk t ≤ 150 * t.length := sumB_top fun f hf => by
    have h1 := path_len (tree_paths h hf)
    have h2 := text_top (tree_texts h f hf)
    show f.Path.length + Bk.bulk f.Text ≤ 150
    omega
  show t.length + sumB Bk.bulk t ≤ 1208
  omega
theorem com_in {r : Repo} (h : repoB r = true) {c : Commit} (hc : c ∈ r.Commits) : c.Parents.length ≤ 2 ∧ (∀ p ∈ c.Parents, 0 ≤ p ∧ p ≤ 16) ∧ nameB c.Who = true ∧ treeB c.Tree = true := by
  obtain ⟨i, hi⟩ := List.mem_iff_getElem?.1 hc
  have hil := ix_of hi
  have s1 := (repo_small h).1
  have := repo_com h (i := i) (by omega)
  rw [getC_of hi] at this
  unfold comB at this
  simp only [Bool.and_eq_true, decide_eq_true_eq, List.all_eq_true] at this
  refine ⟨by omega, fun p hp => ?_, this.2.2.2.1, this.2.2.2.2⟩
  have h1 := this.1 p hp
  unfold upB at h1
  simp only [Bool.and_eq_true, decide_eq_true_eq] at h1
  omega
theorem repo_max {r : Repo} (h : repoB r = true) : Bk.bulk r ≤ 20000 := by
  obtain ⟨s1, s2⟩ := repo_small h
  have h1 : sumB Bk.bulk r.Commits ≤ 1218 * r.Commits.length := sumB_top fun c hc => by
    obtain ⟨c1, _, c3, c4⟩ := com_in h hc
    have := nameB_len c3
    have := tree_max c4
    have hp : sumB Bk.bulk c.Parents ≤ 0 * c.Parents.length := sumB_top fun p hp => Nat.le_refl 0
    show c.Parents.length + sumB Bk.bulk c.Parents + (c.Who.length + Bk.bulk c.Tree) ≤ 1218
    omega
  have h2 : sumB Bk.bulk r.Heads ≤ 6 * r.Heads.length := sumB_top fun x hx => by
    have := nameB_len (head_at h hx).2.2
    show x.Name.length + 0 ≤ 6
    omega
  show r.Commits.length + sumB Bk.bulk r.Commits + (r.Heads.length + sumB Bk.bulk r.Heads) ≤ 20000
  omega
theorem tree_fit {t : List File} (h : treeB t = true) : Bk.fit t := ⟨by have := tree_small h; unfold maxi; omega, fun f hf => ⟨by have := path_len (tree_paths h hf); show f.Path.length ≤ maxi; unfold maxi; omega, by
  have h1 := tree_texts h f hf
  have h2 := textB_len h1
  exact fit_lines (by omega) (textB_line h1)⟩⟩
theorem repo_fit {r : Repo} (h : repoB r = true) : Bk.fit r := by
  obtain ⟨s1, s2⟩ := repo_small h
  refine ⟨⟨by unfold maxi; omega, fun c hc => ?_⟩, by unfold maxi; omega, fun x hx => ?_⟩
  · obtain ⟨c1, c2, c3, c4⟩ := com_in h hc
    refine ⟨⟨by unfold maxi; omega, fun p hp => ?_⟩, by have := nameB_len c3; show c.Who.length ≤ maxi; unfold maxi; omega, tree_fit c4⟩
    have := c2 p hp
    show -9223372036854775808 ≤ p ∧ p ≤ 9223372036854775807
    omega
  · obtain ⟨h1, h2, h3⟩ := head_at h hx
    refine ⟨by have := nameB_len h3; show x.Name.length ≤ maxi; unfold maxi; omega, ?_⟩
    show -9223372036854775808 ≤ x.At ∧ x.At ≤ 9223372036854775807
    omega
theorem paths_once (l : List Str) (o a b : List File) (h : l = o.map (·.Path) ++ a.map (·.Path) ++ b.map (·.Path)) : dedup (sortStr l) = pathsF o a b := by
  refine Asd.ext (dedupF_asd _ none (sort_pw _) (fun q hq => by cases hq)).1 (pathsF_asd o a b) fun x => ?_
  rw [dedup_mem0, sort_mem, h, pathsF_mem]
  simp only [List.mem_append, List.mem_map]
  constructor
  · rintro ((h | h) | h)
    · exact .inl h
    · exact .inr (.inl h)
    · exact .inr (.inr h)
  · rintro (h | h | h)
    · exact .inl (.inl h)
    · exact .inl (.inr h)
    · exact .inr h
end Go.Vm
namespace Go.Vm
open Go Go.Sx
set_option linter.unusedSimpArgs false
set_option linter.unusedVariables false
set_option linter.unusedSectionVars false
theorem iGet_eq {t : List File} (h : TB t) (p : Str) : impl_get t p = some (getT t p) := by
  have hm := h.maxi
  unfold impl_get getT
  simp only [jn, fuel0]
  rw [loop_find (p := fun f : File => f.Path == p) (xs := t) (r := fun f => some (f.Text, true)) (Z := some ([], false)) (f := fun m k => impl_get_l1 t p _ m [] false k) (fun m i x hx => by
    have hf := h.at_ hx
    simp only [impl_get_l1, lt_of hx, gi_of hx, cond_true, Option.bind_some, copyText_eq hf.len, w64_ix (ix_of hx) hm]) (fun m => by simp only [impl_get_l1, end_of, cond_false]) (by omega)]
  cases t.find? (fun f => f.Path == p) <;> rfl
def hasT (t : List File) (p : Str) : has := ⟨(getT t p).1, (getT t p).2⟩
theorem hasAt_eq {t : List File} (h : TB t) (p : Str) : impl_hasAt t p = some (hasT t p) := by
  unfold impl_hasAt
  rw [iGet_eq h, Option.bind_some]
  rfl
theorem hasSame_eq {a b : List File} {p : Str} (h : TB a) : impl_has_same (hasT a p) (hasT b p) = some (decide (getT a p = getT b p)) := by
  have hl := (getT_tb h p).1
  unfold impl_has_same hasT
  simp only [jn, sEqual_eq (to_maxi hl), Option.bind_some]
  generalize getT a p = x at *
  generalize getT b p = y at *
  obtain ⟨x1, x2⟩ := x
  obtain ⟨y1, y2⟩ := y
  by_cases h1 : x1 = y1 <;> cases x2 <;> cases y2 <;> simp [h1]
theorem MergeLines_eq {o a b : List Str} (hto : textB o = true) (hta : textB a = true) (htb : textB b = true) : impl_MergeText o a b = some (linesT (mergeF o a b)) := by
  have lo := textB_len hto
  have la := textB_len hta
  have lb := textB_len htb
  obtain ⟨hlen, hparts⟩ := parts_inv hto hta htb
  unfold impl_MergeText impl_merged_at_impl_MergeText_c1 linesT
  rw [areTexts_eq (fit_lines (by omega) (textB_line hto)) (fit_lines (by omega) (textB_line hta)) (fit_lines (by omega) (textB_line htb)), hto, hta, htb, Option.bind_some]
  simp only [jn, fuel0, Bool.and_self, Bool.not_true, cond_false, mergeOf_eq (show o.length ≤ 1000 by omega) (show a.length ≤ 1000 by omega) (show b.length ≤ 1000 by omega), Option.bind_some]
  obtain ⟨h1, h2⟩ := loop_foldM (xs := mergeF o a b) (step := stepL) (r0 := some (([] : List Str), false)) (Inv := InvT) (s0 := []) (Z := fun s => (impl_TextOk s).bind fun z30 => bif (!z30) then (some (([] : List Str), false)) else (some (s, true))) (f := fun m s i => impl_merged_at_impl_MergeText_c1_l1 (mergeF o a b) (fun _ _ y7 _ => (impl_TextOk y7).bind fun z30 => bif (!z30) then (some (([] : List Str), false)) else (some (y7, true))) m [] false s i) (fun m i p s hx hI => by
    have hi := ix_of hx
    obtain ⟨p1, p2, _⟩ := hparts p (List.mem_of_getElem? hx)
    refine ⟨?_, fun s' hst => stepL_inv p1 p2 hI hst⟩
    have hs := hI.1
    simp only [impl_merged_at_impl_MergeText_c1_l1, impl_MergeText_c1, jn, lt_of hx, gi_of hx, cond_true, Option.bind_some, w64_ix hi (show (mergeF o a b).length ≤ maxi by unfold maxi; omega), apT (show s.length ≤ 1000000 by omega) (show p.Lines.length ≤ 1000000 by omega)]
    unfold stepL
    cases p.Clash <;> rfl) (fun m s hI => by simp only [impl_merged_at_impl_MergeText_c1_l1, end_of, cond_false]) (m := (mergeF o a b).length + 1) (by omega) ⟨by simp, by simp⟩
  rw [h1]
  cases hf : (mergeF o a b).foldlM stepL [] with
  | none => rfl
  | some s =>
    have hI := h2 s hf
    have hs := hI.1
    show ((impl_TextOk s).bind _).bind _ = some (okT s)
    rw [TextOk_eq (fit_lines (by omega) hI.2), Option.bind_some]
    unfold okT
    cases textB s <;> rfl
theorem oneF_kind (o a b : List File) (p : Str) : ((oneF o a b p).2.2 != (0 : Int)) = decide (0 < (oneF o a b p).2.2) := by
  have h : 0 ≤ (oneF o a b p).2.2 := by
    unfold oneF
    simp only [cond_eq_ite]
    repeat' split
    all_goals simp
  generalize (oneF o a b p).2.2 = k at *
  rw [Bool.eq_iff_iff]
  simp only [bne_iff_ne, decide_eq_true_eq]
  omega
section
variable {o a b : List File} (ho : TB o) (ha : TB a) (hb : TB b) (to : textsB o) (ta : textsB a) (tb : textsB b)
include ho ha hb to ta tb
theorem joinAt_eq (p : Str) : impl_joinAt (hasT o p) (hasT a p) (hasT b p) = some (⟨(oneF o a b p).1, (oneF o a b p).2.1⟩, (oneF o a b p).2.2) := by
  have no := getT_no (t := o) (p := p)
  have mt := MergeLines_eq (getT_text to p) (getT_text ta p) (getT_text tb p)
  unfold impl_joinAt oneF
  simp only [jn, hasSame_eq ha, hasSame_eq hb, Option.bind_some, same6_dec]
  unfold hasT
  simp only [mt, Option.bind_some]
  cases decide (getT a p = getT o p) <;> cases decide (getT a p = getT b p) <;> cases decide (getT b p = getT o p) <;> try rfl
  cases h1 : (getT a p).2 <;> cases h2 : (getT b p).2 <;> try rfl
  cases h3 : (getT o p).2 with
  | false => rw [no h3]; rfl
  | true => cases (linesT (mergeF (getT o p).1 (getT a p).1 (getT b p).1)).2 <;> rfl
theorem ijoin_loop {ps : List Str} (hp : ps.length ≤ 1000) {G : List File → List Clash → Int → Option (List File × List Clash)} : ∀ (k i m : Nat) (fs : List File) (cs : List Clash), i + k = ps.length → k < m → fs.length ≤ i → cs.length ≤ i →
    impl_JoinOf_l1 o a b ps G m fs cs (i : Int) = G (fs ++ (ps.drop i).filterMap (fileO o a b)) (cs ++ (ps.drop i).filterMap (clashO o a b)) (ps.length : Int)
  | k, i, 0, fs, cs, _, hm, _, _ => by omega
  | 0, i, m + 1, fs, cs, hi, _, _, _ => by
    obtain rfl : i = ps.length := by omega
    simp only [impl_JoinOf_l1, end_of, cond_false, List.drop_length]
    simp
  | k + 1, i, m + 1, fs, cs, hi, hm, hf, hc => by
    have hlt : i < ps.length := by omega
    have hx : ps[i]? = some ps[i] := List.getElem?_eq_getElem hlt
    have ih := fun fs cs h1 h2 => ijoin_loop hp (G := G) k (i + 1) m fs cs (by omega) (by omega) h1 h2
    have eh : ∀ x : has, (⟨x.text, x.file⟩ : has) = x := fun _ => rfl
    simp only [impl_JoinOf_l1, jn, lt_of hx, gi_of hx, cond_true, Option.bind_some, w64_ix hlt (show ps.length ≤ maxi by unfold maxi; omega), hasAt_eq ho, hasAt_eq ha, hasAt_eq hb, eh, joinAt_eq ho ha hb to ta tb, oneF_kind, ap1 (x := (⟨ps[i], (oneF o a b ps[i]).1⟩ : File)) (show fs.length ≤ 1048576 by omega), ap1 (x := (⟨ps[i], (oneF o a b ps[i]).2.2⟩ : Clash)) (show cs.length ≤ 1048576 by omega)]
    rw [List.drop_eq_getElem_cons hlt, List.filterMap_cons, List.filterMap_cons]
    unfold fileO clashO at ih ⊢
    cases (oneF o a b ps[i]).2.1 <;> cases decide (0 < (oneF o a b ps[i]).2.2) <;> simp only [cond_true, cond_false, Option.bind_some]
    · rw [ih _ _ (by omega) (by omega)]
    · rw [ih _ _ (by omega) (by simp; omega)]; simp
    · rw [ih _ _ (by simp; omega) (by omega)]; simp
    · rw [ih _ _ (by simp; omega) (by simp; omega)]; simp
end
theorem allPaths_l2 {t : List File} (h : TB t) {C : List Str → Int → Option (List Str)} : ∀ (k i m : Nat) (acc : List Str), i + k = t.length → k < m → acc.length ≤ 10000 + i → t.length ≤ 1000 →
    impl_allPaths_l2 t C m acc (i : Int) = C (acc ++ (t.drop i).map (·.Path)) (t.length : Int)
  | k, i, 0, acc, _, hm, _, _ => by omega
  | 0, i, m + 1, acc, hi, _, _, _ => by
    obtain rfl : i = t.length := by omega
    simp only [impl_allPaths_l2, end_of, cond_false, List.drop_length]
    simp
  | k + 1, i, m + 1, acc, hi, hm, hl, ht => by
    have hlt : i < t.length := by omega
    have hx : t[i]? = some t[i] := List.getElem?_eq_getElem hlt
    simp only [impl_allPaths_l2, lt_of hx, gi_of hx, cond_true, Option.bind_some, ap1 (x := t[i].Path) (show acc.length ≤ 1048576 by omega), w64_ix hlt h.maxi]
    rw [allPaths_l2 h k (i + 1) m _ (by omega) (by omega) (by simp; omega) ht, List.drop_eq_getElem_cons hlt, List.map_cons, List.append_assoc]
    rfl
theorem allPaths_eq {o a b : List File} (ho : TB o) (ha : TB a) (hb : TB b) (so : o.length ≤ 100) (sa : a.length ≤ 100) (sb : b.length ≤ 100) : impl_allPaths [o, a, b] = some (pathsF o a b) := by
  unfold impl_allPaths
  simp only [jn, fuel0]
  have step : ∀ (K : List Str → Int → Option (List Str)) (m i : Nat) (t : List File) (acc : List Str), [o, a, b][i]? = some t → TB t → t.length ≤ 100 → acc.length ≤ 1000 → impl_allPaths_l1 [o, a, b] K (m + 1) acc (i : Int) = impl_allPaths_l1 [o, a, b] K m (acc ++ t.map (·.Path)) ((i + 1 : Nat) : Int) := fun K m i t acc hx ht hl ha => by
    have hi := ix_of hx
    simp only [impl_allPaths_l1, jn, lt_of hx, gi_of hx, cond_true, Option.bind_some, fuel0]
    have := allPaths_l2 ht (C := fun e g => impl_allPaths_l1 [o, a, b] K m e (w64 ((i : Int) + 1))) t.length 0 (t.length + 1) acc (by omega) (by omega) (by omega) (by omega)
    rw [List.drop_zero] at this
    refine this.trans ?_
    rw [w64_ix hi (by simp [maxi])]
  have hlen : ([o, a, b] : List (List File)).length + 1 = 3 + 1 := rfl
  rw [hlen]
  refine (step _ 3 0 o [] rfl ho so (by simp)).trans ?_
  refine (step _ 2 1 a _ rfl ha sa (by simp; omega)).trans ?_
  refine (step _ 1 2 b _ rfl hb sb (by simp; omega)).trans ?_
  have he : ∀ (K : List Str → Int → Option (List Str)) (m : Nat) (acc : List Str), impl_allPaths_l1 [o, a, b] K (m + 1) acc ((2 + 1 : Nat) : Int) = K acc ((2 + 1 : Nat) : Int) := fun K m acc => rfl
  refine (he _ 0 _).trans ?_
  have e0 : [] ++ o.map (fun f : File => f.Path) ++ a.map (fun f : File => f.Path) ++ b.map (fun f : File => f.Path) = o.map (·.Path) ++ a.map (·.Path) ++ b.map (·.Path) := by simp
  rw [e0]
  have hl : (o.map (fun f : File => f.Path) ++ a.map (fun f : File => f.Path) ++ b.map (fun f : File => f.Path)).length ≤ 300 := by simp; omega
  generalize hL : o.map (fun f : File => f.Path) ++ a.map (fun f : File => f.Path) ++ b.map (fun f : File => f.Path) = L at *
  have h2 : (sortStr L).length = L.length := List.length_mergeSort _
  unfold slices_Sort_string_string slices_Compact_string_string
  rw [if_pos (by omega), Option.bind_some, if_pos (by omega), Option.bind_some, paths_once L o a b hL.symm]
section
variable {o a b : List File} (ho : TB o) (ha : TB a) (hb : TB b) (to : treeB o = true) (ta : treeB a = true) (tb : treeB b = true)
include ho ha hb to ta tb
theorem areTrees_eq : impl_areTrees o a b = some true := by
  unfold impl_areTrees
  simp only [jn, TreeOk_eq ho, TreeOk_eq ha, TreeOk_eq hb, to, ta, tb, Option.bind_some, cond_true]
theorem iJoinOf_eq : impl_JoinOf o a b = some (joinB o a b) := by
  have so := tree_small to
  have sa := tree_small ta
  have sb := tree_small tb
  have hl := pathsF_len o a b
  unfold impl_JoinOf joinB
  rw [areTrees_eq ho ha hb to ta tb, Option.bind_some, Bool.not_true, cond_false, allPaths_eq ho ha hb (by omega) (by omega) (by omega), Option.bind_some]
  simp only [jn, fuel0]
  have := ijoin_loop ho ha hb (tree_texts to) (tree_texts ta) (tree_texts tb) (ps := pathsF o a b) (by omega) (G := fun b' c _ => bif ((c.length : Int) == (0 : Int)) then ((impl_TreeOk b').bind fun h => bif !h then ((impl_copyTree o).bind fun g => some (g, ([⟨[], 4⟩] : List Clash))) else some (b', c)) else (bif false then ((impl_copyTree o).bind fun g => some (g, ([⟨[], 4⟩] : List Clash))) else some (b', c))) (pathsF o a b).length 0 ((pathsF o a b).length + 1) [] [] (by omega) (by omega) (by simp) (by simp)
  refine this.trans ?_
  simp only [List.drop_zero, List.nil_append]
  rw [show (pathsF o a b).filterMap (fileO o a b) = filesJ o a b from rfl, show (pathsF o a b).filterMap (clashO o a b) = clashJ o a b from rfl, TreeOk_eq (filesJ_tb ho ha hb (tree_texts to) (tree_texts ta) (tree_texts tb) (by omega) (by omega) (by omega)), copyTree_eq ho]
  simp only [Option.bind_some]
  cases (((clashJ o a b).length : Int) == 0) <;> cases treeB (filesJ o a b) <;> rfl
theorem iJoinTree_eq : impl_JoinTree o a b = some (bif decide (0 < ((joinB o a b).2.length : Int)) then ([], false) else ((joinB o a b).1, true)) := by
  unfold impl_JoinTree
  rw [areTrees_eq ho ha hb to ta tb, Option.bind_some, Bool.not_true, cond_false, iJoinOf_eq ho ha hb to ta tb, Option.bind_some]
  cases decide (0 < ((joinB o a b).2.length : Int)) <;> rfl
end
end Go.Vm
namespace Go.Vm
open Go Go.Sx
set_option linter.unusedSimpArgs false
set_option linter.unusedVariables false
theorem AscI.lt {l : List Int} (h : AscI l) {i k : Nat} (hik : i < k) (hk : k < l.length) : l.getD i 0 < l.getD k 0 := by
  have h1 : i < l.length := by omega
  have := List.pairwise_iff_getElem.1 h i k h1 hk hik
  rw [getI_of (List.getElem?_eq_getElem h1), getI_of (List.getElem?_eq_getElem hk)]
  exact this
theorem AscI.inj {l : List Int} (h : AscI l) {i k : Nat} (hi : i < l.length) (hk : k < l.length) (e : l.getD i 0 = l.getD k 0) : i = k := by
  rcases Nat.lt_trichotomy i k with h1 | h1 | h1
  · have := h.lt h1 hk; omega
  · exact h1
  · have := h.lt h1 hi; omega
end Go.Vm
namespace Go.Vm
open Go Go.Sx
set_option linter.unusedSimpArgs false
set_option linter.unusedVariables false
set_option linter.unusedSectionVars false
theorem reta (x : Repo) : (⟨x.Commits, x.Heads⟩ : Repo) = x := rfl
theorem treeI_at {r : Repo} (h : RpB r) {a : Int} (ha : upB r.Commits.length a = true) : impl_Repo_tree r a = some (treeAt r a.toNat) := by
  obtain ⟨a0, a1⟩ := upB_iff.1 ha
  unfold impl_Repo_tree
  rw [decide_eq_false (by omega), cond_false, com_atI a0 a1]
  rfl
section
variable {r : Repo} (h : RpB r) (hr : repoB r = true)
include h hr
theorem gd_of : Gd False r := ⟨h, hr, fun e => e.elim⟩
theorem iTry_eq {n : Str} (hn : n.length ≤ 1048576) {c : Commit} (hc : CB c) : ((impl_Repo_own r).bind fun j => (impl_Repo_commit ⟨j.Commits, j.Heads⟩ n c.Who c.Tree c.Parents).bind fun k => (impl_Repo_tried r ⟨k.Commits, k.Heads⟩).bind fun b => bif (!b.2) then (some (Repo.mk b.1.Commits b.1.Heads, (5 : Int))) else (some (Repo.mk b.1.Commits b.1.Heads, 0))) = some (tryAdd r n c) := by
  obtain ⟨s1, s2⟩ := repo_small hr
  rw [rOwn_eq h, Option.bind_some, reta, iCommit_eq h (by omega) (heads_asc hr) hc.tree hc.who hc.par, Option.bind_some, reta, show (⟨c.Parents, c.Who, c.Tree⟩ : Commit) = c from rfl, tried_eq h (h.addR (by omega) (by omega) hn hc), Option.bind_some]
  unfold tryAdd
  cases repoB (addR r n c) <;> rfl
theorem joins_eq {o a b : List File} (to : TB o) (ta : TB a) (tb : TB b) (uo : treeB o = true) (ua : treeB a = true) (ub : treeB b = true) {ps : List Int} (hps : ps.length ≤ 2) {n who : Str} (hn : n.length ≤ 1048576) (hw : who.length ≤ 1048576) : ((impl_JoinTree o a b).bind fun h => bif (!h.2) then ((impl_Repo_own r).bind fun i => some (Repo.mk i.Commits i.Heads, 4)) else ((impl_Repo_own r).bind fun j => (impl_Repo_commit ⟨j.Commits, j.Heads⟩ n who h.1 ps).bind fun k => (impl_Repo_tried r ⟨k.Commits, k.Heads⟩).bind fun b => bif (!b.2) then (some (Repo.mk b.1.Commits b.1.Heads, (5 : Int))) else (some (Repo.mk b.1.Commits b.1.Heads, 0)))) = some (bif decide (0 < ((joinB o a b).2.length : Int)) then (r, 4) else tryAdd r n ⟨ps, who, (joinB o a b).1⟩) := by
  have so := tree_small uo
  have sa := tree_small ua
  have sb := tree_small ub
  have hj := joinB_tb to ta tb (tree_texts uo) (tree_texts ua) (tree_texts ub) (by omega) (by omega) (by omega)
  rw [iJoinTree_eq to ta tb uo ua ub, Option.bind_some]
  cases decide (0 < ((joinB o a b).2.length : Int)) with
  | true =>
    simp only [cond_true, Bool.not_false, rOwn_eq h, Option.bind_some]
  | false =>
    exact iTry_eq h hr hn (c := ⟨ps, who, (joinB o a b).1⟩) ⟨show ps.length ≤ 1048576 by omega, hw, hj⟩
end
def Outs (r : Repo) (n : Str) (x : Repo) : Prop := x = r ∨ x = zeroR ∨ repoB x = true
theorem Outs.bulk {r x : Repo} {n : Str} (h : Outs r n x) : Bk.bulk x ≤ Bk.bulk r + 20000 := by
  rcases h with h | h | h
  · rw [h]; omega
  · rw [h]; show 0 + 0 + (0 + 0) ≤ _; omega
  · have := repo_max h; omega
theorem Outs.fit {r x : Repo} {n : Str} (hf : Bk.fit r) (h : Outs r n x) : Bk.fit x := by
  rcases h with h | h | h
  · rw [h]; exact hf
  · rw [h]; exact ⟨⟨by simp [zeroR, maxi], by simp [zeroR]⟩, by simp [zeroR, maxi], by simp [zeroR]⟩
  · exact repo_fit h
end Go.Vm
namespace Go.Vm
open Go Go.Sx
set_option linter.unusedSimpArgs false
set_option linter.unusedVariables false
set_option linter.unusedSectionVars false
section
variable {r : Repo} (h : RpB r) (hr : repoB r = true)
include h hr
theorem firstTree_eq {a : Int} (ha : upB r.Commits.length a = true) {Z : List File → Option (Repo × Int)} : ((impl_Repo_first r a).bind fun g => (impl_Repo_tree r g).bind Z) = Z (aheadT r a.toNat) := by
  obtain ⟨a0, a1⟩ := upB_iff.1 ha
  obtain ⟨n, rfl⟩ := Int.eq_ofNat_of_zero_le a0
  rw [ifirst_eq hr (by omega), Option.bind_some, Int.toNat_natCast]
  unfold aheadT
  cases hp : parsAt r n with
  | nil => rfl
  | cons p ps =>
    have hm := (pars_small hr (i := n) (by omega)).2 p (by rw [hp]; simp)
    have hz : (((p :: ps).length : Int) == (0 : Int)) = false := by
      rw [beq_eq_false_iff_ne]
      simp only [List.length_cons]
      omega
    rw [hz, cond_false]
    show (impl_Repo_tree r p).bind Z = _
    rw [treeI_at h (upB_iff.2 (by omega)), Option.bind_some]
    rfl
theorem iApply_eq {n who : Str} {o b : List File} (hn : n.length ≤ 1048576) (hw : who.length ≤ 1048576) (hat : 0 ≤ atB r n) (to : TB o) (uo : treeB o = true) (tb : TB b) (ub : treeB b = true) : impl_Repo_apply r n who o b = some (pickB r n who o b) := by
  have hg := gd_of h hr
  have ha' : atB r n ≤ (r.Commits.length : Int) - 1 := by rcases at_range hr n with e | e <;> omega
  obtain ⟨ta, ta2, _, _⟩ := hg.tree (i := (atB r n).toNat) (by have := (repo_small hr).1; omega)
  unfold impl_Repo_apply
  rw [iAt_eq h, Option.bind_some, treeI_at h (upB_iff.2 ⟨hat, ha'⟩), Option.bind_some]
  exact joins_eq h hr to ta tb uo ta2 ub (ps := [atB r n]) (by simp) hn hw
theorem iPick_eq {n who : Str} {b : Int} (hn : n.length ≤ 1048576) (hw : who.length ≤ 1048576) (t : Bool) : impl_Repo_pick r n who b t = some (bif badN r n who b then (r, 1) else (bif t then pickB r n who (treeAt r b.toNat) (aheadT r b.toNat) else pickB r n who (aheadT r b.toNat) (treeAt r b.toNat))) := by
  have hg := gd_of h hr
  unfold impl_Repo_pick
  simp only [jn, iAt_eq h, Option.bind_some, nameOk_eq (to_maxi hw), exists_eq h, rOwn_eq h, reta]
  have key : badN r n who b = false → ((impl_Repo_first r b).bind fun g => (impl_Repo_tree r g).bind fun d => (impl_Repo_tree r b).bind fun e => bif t then ((impl_Repo_apply r n who e d).bind fun a => some (Repo.mk a.1.Commits a.1.Heads, a.2)) else ((impl_Repo_apply r n who d e).bind fun a => some (Repo.mk a.1.Commits a.1.Heads, a.2))) = some (bif t then pickB r n who (treeAt r b.toNat) (aheadT r b.toNat) else pickB r n who (aheadT r b.toNat) (treeAt r b.toNat)) := fun hbad => by
    obtain ⟨p1, p2, p3⟩ := bad_not hbad
    have ub := upB_iff.2 ⟨p2, p3⟩
    obtain ⟨_, q2, q3⟩ := l10Ahead_eq hg p2 p3
    obtain ⟨tb, tb2, _, _⟩ := hg.tree (i := b.toNat) (by have := (repo_small hr).1; omega)
    rw [firstTree_eq h hr ub (Z := fun d => (impl_Repo_tree r b).bind fun e => bif t then ((impl_Repo_apply r n who e d).bind fun a => some (Repo.mk a.1.Commits a.1.Heads, a.2)) else ((impl_Repo_apply r n who d e).bind fun a => some (Repo.mk a.1.Commits a.1.Heads, a.2))), treeI_at h ub, Option.bind_some]
    cases t with
    | true => rw [cond_true, cond_true, iApply_eq h hr hn hw p1 tb tb2 q2 q3, Option.bind_some]
    | false => rw [cond_false, cond_false, iApply_eq h hr hn hw p1 q2 q3 tb tb2, Option.bind_some]
  unfold badN at key ⊢
  cases h1 : decide (atB r n < 0) with
  | true => rfl
  | false =>
    cases h2 : nameB who with
    | false => rfl
    | true =>
      cases h3 : upB r.Commits.length b with
      | false => rfl
      | true => exact key (by rw [h1, h2, h3]; rfl)
end
theorem iPickBack_eq {r : Repo} (h : RpB r) {n who : Str} {b : Int} (hn : n.length ≤ 1048576) (hw : who.length ≤ 1048576) : impl_PickBack r n who b = some (pickBk r n who b) := by
  unfold impl_PickBack pickBk
  rw [RepoOk_eq h, Option.bind_some]
  cases hr : repoB r with
  | false => rfl
  | true =>
    rw [Bool.not_true, cond_false, cond_true, iPick_eq h hr hn hw, Option.bind_some]
    cases badN r n who b <;> rfl
theorem sPickBack_any {r : Repo} (h : RpB r) {n who : Str} {b : Int} (hn : n.length ≤ 1048576) (hw : who.length ≤ 1048576) : spec_PickBack r n who b = some (pickBk r n who b) := by
  cases hr : repoB r with
  | true => exact (sPickBack_eq (gd_of h hr) hn hw).1
  | false =>
    unfold spec_PickBack pickBk
    rw [l7Ok_eq h, hr, Option.bind_some]
    rfl
theorem pickBk_outs {r : Repo} (h : RpB r) {n who : Str} {b : Int} (hn : n.length ≤ 1048576) (hw : who.length ≤ 1048576) : Outs r n (pickBk r n who b).1 := by
  cases hr : repoB r with
  | true => exact .inr (.inr (sPickBack_eq (gd_of h hr) hn hw).2.ok)
  | false => unfold pickBk; rw [hr]; exact .inr (.inl rfl)
theorem FnExactPickBack_eq {repo : Repo} {name who : Str} {b : Int} (h : Bk.fit repo) (hw : Bk.fit name) (hv : Bk.fit who) (hb' : Bk.fit b) : laws_FnExactPickBack repo name who b = some true := by
  unfold laws_FnExactPickBack
  by_cases hc : (1048576 : Int) < (name.length : Int)
  · rw [decide_eq_true hc]; rfl
  rw [decide_eq_false hc, cond_false]
  by_cases hc2 : (1048576 : Int) < (who.length : Int)
  · rw [decide_eq_true hc2]; rfl
  rw [decide_eq_false hc2, cond_false, eszRepo h (by omega) (by omega), Option.bind_some]
  by_cases hb : (Bk.bulk repo : Int) ≤ 1048576
  case neg => rw [if_neg hb]; rfl
  rw [if_pos hb, decide_eq_false (by omega), cond_false]
  have b1 : Bk.bulk repo ≤ 1048576 := by omega
  have hr := RpB.of h b1
  have hn : name.length ≤ 1048576 := by omega
  have hwn : who.length ≤ 1048576 := by omega
  have ho := pickBk_outs hr (b := b) hn hwn
  have hf := ho.fit h
  have b2 := ho.bulk
  have c1 := few_mdVRepo repo
  have c2 := few_mdVRepo (pickBk repo name who b).1
  have hg : Bk.fit (mdVRepo.wr 1 (pickBk repo name who b).1).2 := fit_mdVRepo 1 _ (by omega) (by omega) hf
  have c3 := mdVRepo.cnt 1 (pickBk repo name who b).1
  have e2 := mdVRepo.again 1 (pickBk repo name who b).1
  have f1 : (mdVRepo.wr 1 repo).1 = 1 + (mdVRepo.cn repo : Int) := mdVRepo.fst _ _
  have n1 : decide ((mdVRepo.wr 1 repo).1 < 0) = false := decide_eq_false (by rw [f1]; omega)
  have n2 : decide ((mdVRepo.wr 1 (pickBk repo name who b).1).1 < 0) = false := decide_eq_false (by rw [mdVRepo.fst]; omega)
  simp only [etoRepo b1, Option.bind_some, reta, sPickBack_any hr hn hwn, iPickBack_eq hr hn hwn, jn, eeqRepo hf, eeqRepo h, beq_self_eq_true, Bool.not_true, cond_false, bne_self_eq_false,
    emarkRepo (x := repo) (k := 1) (by omega) (by omega) h, n1, emarkRepo (x := (pickBk repo name who b).1) (k := 1) (by omega) (by omega) hf,
    eheldRepo (mdVRepo.held_wr 1 (pickBk repo name who b).1) (show (0 : Int) ≤ 1 by omega) (by omega) hg, e2, n2]
end Go.Vm
namespace Go.Vm
open Go Go.Sx
set_option linter.unusedSimpArgs false
set_option linter.unusedVariables false
set_option linter.unusedSectionVars false
def ChH : Int → List Hunk → Prop
  | _, [] => True
  | lo, d :: l => lo ≤ d.At ∧ ChH (d.At + d.Less.length + 1) l
theorem ChH.mono : ∀ {l : List Hunk} {lo lo' : Int}, lo' ≤ lo → ChH lo l → ChH lo' l
  | [], _, _, _, _ => trivial
  | d :: l, _, _, h, ⟨h1, h2⟩ => ⟨Int.le_trans h h1, h2⟩
end Go.Vm
