/- Plain laws of the table of lines that two texts share, and of how they are matched. Conditions: each law's own premises. -/
import Derived.Test.YtjdljoplpcakpaaXQb
namespace Go.Vm
open Go Go.Sx
set_option linter.unusedSimpArgs false
set_option linter.unusedVariables false

/-- How many lines two texts have together at most, in order. -/
def lcsL : List Str → List Str → Int
  | [], _ => 0
  | _ :: _, [] => 0
  | x :: xs, y :: ys => if x == y then lcsL xs ys + 1 else maxI (lcsL xs (y :: ys)) (lcsL (x :: xs) ys)
termination_by a b => a.length + b.length
theorem lcsL_nil (b : List Str) : lcsL [] b = 0 := by rw [lcsL]
theorem lcsL_nilr (a : List Str) : lcsL a [] = 0 := by cases a <;> rw [lcsL]
theorem lcsL_cons (x y : Str) (xs ys : List Str) : lcsL (x :: xs) (y :: ys) = if x == y then lcsL xs ys + 1 else maxI (lcsL xs (y :: ys)) (lcsL (x :: xs) ys) := by rw [lcsL]
theorem lcsL_range : ∀ (n : Nat) (a b : List Str), a.length + b.length ≤ n → 0 ≤ lcsL a b ∧ lcsL a b ≤ a.length
  | _, [], b, _ => by rw [lcsL_nil]; simp
  | _, x :: xs, [], _ => by rw [lcsL_nilr]; simp; omega
  | 0, x :: xs, y :: ys, h => by simp at h
  | n + 1, x :: xs, y :: ys, h => by
    simp only [List.length_cons] at h
    have h1 := lcsL_range n xs ys (by omega)
    have h2 := lcsL_range n xs (y :: ys) (by simp; omega)
    have h3 := lcsL_range n (x :: xs) ys (by simp; omega)
    rw [lcsL_cons]
    simp only [List.length_cons] at *
    split
    · omega
    · unfold maxI; split <;> omega
theorem lcsL_lo (a b : List Str) : 0 ≤ lcsL a b := (lcsL_range _ a b (Nat.le_refl _)).1
theorem lcsL_hi (a b : List Str) : lcsL a b ≤ a.length := (lcsL_range _ a b (Nat.le_refl _)).2

/-- The numbers g 0, .., g (n - 1). -/
def rowF (n : Nat) (g : Nat → Int) : List Int := (List.range n).map g
def tabF (n m : Nat) (f : Nat → Nat → Int) : List (List Int) := (List.range n).map fun i => rowF m (f i)
theorem rowF_congr {n : Nat} {g g' : Nat → Int} (h : ∀ k, k < n → g k = g' k) : rowF n g = rowF n g' := by
  unfold rowF
  exact List.map_congr_left fun k hk => h k (List.mem_range.1 hk)
theorem tabF_congr {n m : Nat} {f f' : Nat → Nat → Int} (h : ∀ i k, i < n → k < m → f i k = f' i k) : tabF n m f = tabF n m f' := by
  unfold tabF
  exact List.map_congr_left fun i hi => rowF_congr fun k hk => h i k (List.mem_range.1 hi) hk
theorem rowF_at {n k : Nat} {g : Nat → Int} (h : k < n) : gi (rowF n g) (k : Int) = some (g k) := gi_of (by simp [rowF, h])
theorem tabF_at {n m i : Nat} {f : Nat → Nat → Int} (h : i < n) : gi (tabF n m f) (i : Int) = some (rowF m (f i)) := gi_of (by simp [tabF, h])
theorem rowF_set {n k : Nat} {g : Nat → Int} {v : Int} (h : k < n) : siM (rowF n g) (k : Int) v = some (rowF n fun k' => if k' = k then v else g k') := by
  rw [siM_of (by simp [rowF, h])]
  congr 1
  apply List.ext_getElem?
  intro j
  unfold rowF
  by_cases hj : j = k
  · subst hj
    rw [List.getElem?_set_self (by simp [h])]
    simp [h]
  · rw [List.getElem?_set_ne (Ne.symm hj)]
    by_cases hl : j < n
    · simp [hl, hj]
    · rw [List.getElem?_eq_none (by simp; omega), List.getElem?_eq_none (by simp; omega)]
theorem tabF_set {n m i : Nat} {f : Nat → Nat → Int} {g : Nat → Int} (h : i < n) : siM (tabF n m f) (i : Int) (rowF m g) = some (tabF n m fun i' => if i' = i then g else f i') := by
  rw [siM_of (by simp [tabF, h])]
  congr 1
  apply List.ext_getElem?
  intro j
  unfold tabF
  by_cases hj : j = i
  · subst hj
    rw [List.getElem?_set_self (by simp [h])]
    simp [h]
  · rw [List.getElem?_set_ne (Ne.symm hj)]
    by_cases hl : j < n
    · simp [hl, hj]
    · rw [List.getElem?_eq_none (by simp; omega), List.getElem?_eq_none (by simp; omega)]
theorem rowF_len (n : Nat) (g : Nat → Int) : (rowF n g).length = n := by simp [rowF]
theorem tabF_len (n m : Nat) (f : Nat → Nat → Int) : (tabF n m f).length = n := by simp [tabF]

section
variable (a b : List Str)
def lcsAt (i k : Nat) : Int := lcsL (a.drop i) (b.drop k)
/-- The table when all from (i, k) on has been told. -/
def stage (i k i' k' : Nat) : Int := if i < i' ∨ (i = i' ∧ k ≤ k') then lcsAt a b i' k' else 0
def lcsT : List (List Int) := tabF (a.length + 1) (b.length + 1) (lcsAt a b)
end
section
variable {a b : List Str}
theorem lcsAt_end (i : Nat) : lcsAt a b i b.length = 0 := by unfold lcsAt; rw [List.drop_length, lcsL_nilr]
theorem lcsAt_endl (k : Nat) : lcsAt a b a.length k = 0 := by unfold lcsAt; rw [List.drop_length, lcsL_nil]
theorem lcsAt_lo (i k : Nat) : 0 ≤ lcsAt a b i k := lcsL_lo _ _
theorem lcsAt_hi (i k : Nat) : lcsAt a b i k ≤ a.length := by
  have := lcsL_hi (a.drop i) (b.drop k)
  unfold lcsAt
  simp only [List.length_drop] at this
  omega
theorem lcsAt_step {i k : Nat} {x y : Str} (hx : a[i]? = some x) (hy : b[k]? = some y) : lcsAt a b i k = if x == y then lcsAt a b (i + 1) (k + 1) + 1 else maxI (lcsAt a b (i + 1) k) (lcsAt a b i (k + 1)) := by
  have hi := ix_of hx
  have hk := ix_of hy
  have ex : a[i] = x := by rw [List.getElem?_eq_getElem hi] at hx; exact Option.some.inj hx
  have ey : b[k] = y := by rw [List.getElem?_eq_getElem hk] at hy; exact Option.some.inj hy
  unfold lcsAt
  rw [List.drop_eq_getElem_cons hi, List.drop_eq_getElem_cons hk, lcsL_cons, ex, ey]
theorem stage_row {i k : Nat} {v : Int} (hv : v = lcsAt a b i k) (n m : Nat) : tabF n m (fun i' => if i' = i then (fun k' => if k' = k then v else stage a b i (k + 1) i k') else stage a b i (k + 1) i') = tabF n m (stage a b i k) := by
  refine tabF_congr fun i' k' _ _ => ?_
  by_cases h1 : i' = i
  · subst h1
    rw [if_pos rfl]
    by_cases h2 : k' = k
    · subst h2
      rw [if_pos rfl, hv]
      simp [stage]
    · rw [if_neg h2]
      simp only [stage, Nat.lt_irrefl, false_or, true_and]
      by_cases h3 : k + 1 ≤ k'
      · rw [if_pos h3, if_pos (by omega)]
      · rw [if_neg h3, if_neg (by omega)]
  · rw [if_neg h1]
    simp only [stage]
    by_cases h3 : i < i'
    · rw [if_pos (.inl h3), if_pos (.inl h3)]
    · rw [if_neg (by omega), if_neg (by omega)]
theorem stage_next (i : Nat) : tabF (a.length + 1) (b.length + 1) (stage a b (i + 1) 0) = tabF (a.length + 1) (b.length + 1) (stage a b i b.length) := by
  refine tabF_congr fun i' k' _ hk => ?_
  simp only [stage, Nat.zero_le, and_true]
  by_cases h : i < i'
  · rw [if_pos (by omega), if_pos (.inl h)]
  · rw [if_neg (by omega)]
    by_cases h2 : i = i' ∧ b.length ≤ k'
    · rw [if_pos (.inr h2), show k' = b.length by omega, lcsAt_end]
    · rw [if_neg (by omega)]
theorem stage_start : tabF (a.length + 1) (b.length + 1) (fun _ _ => 0) = tabF (a.length + 1) (b.length + 1) (stage a b a.length 0) := by
  refine tabF_congr fun i' k' hi _ => ?_
  simp only [stage, Nat.zero_le, and_true]
  by_cases h : a.length < i' ∨ a.length = i'
  · rw [if_pos h, show i' = a.length by omega, lcsAt_endl]
  · rw [if_neg h]
theorem stage_end : tabF (a.length + 1) (b.length + 1) (stage a b 0 0) = lcsT a b := by
  refine tabF_congr fun i' k' _ _ => ?_
  simp only [stage, Nat.zero_le, and_true]
  rw [if_pos (by omega)]

theorem ilcs_l3 (hb : b.length ≤ maxi) (hN : (a.length : Int) + 1 ≤ 9223372036854775807) {i : Nat} (hi : i < a.length) {R : Int → List (List Int) → Option (List (List Int))} : ∀ (k m : Nat), k ≤ b.length → k < m →
    impl_lcs_l3 a b (i : Int) R m ((k : Int) - 1) (tabF (a.length + 1) (b.length + 1) (stage a b i k)) = R (-1) (tabF (a.length + 1) (b.length + 1) (stage a b i 0))
  | 0, 0, _, h => by omega
  | 0, m + 1, _, _ => by
    simp only [impl_lcs_l3]
    rw [decide_eq_false (by omega)]; rfl
  | k + 1, 0, _, h => by omega
  | k + 1, m + 1, hk, hm => by
    unfold maxi at hb
    have hx : a[i]? = some a[i] := List.getElem?_eq_getElem hi
    have hy : b[k]? = some b[k] := List.getElem?_eq_getElem (by omega)
    have hst := lcsAt_step hx hy
    have e1 : (((k + 1 : Nat) : Int) - 1) = (k : Int) := by omega
    have e2 : w64 ((i : Int) + 1) = ((i + 1 : Nat) : Int) := by rw [w64_id (by omega) (by omega)]; omega
    have e3 : w64 ((k : Int) + 1) = ((k + 1 : Nat) : Int) := by rw [w64_id (by omega) (by omega)]; omega
    have e4 : w64 ((k : Int) - 1) = (k : Int) - 1 := w64_id (by omega) (by omega)
    have s1 : stage a b i (k + 1) (i + 1) (k + 1) = lcsAt a b (i + 1) (k + 1) := by simp [stage]
    have s2 : stage a b i (k + 1) (i + 1) k = lcsAt a b (i + 1) k := by simp [stage]
    have s3 : stage a b i (k + 1) i (k + 1) = lcsAt a b i (k + 1) := by simp [stage]
    have lo := lcsAt_lo (a := a) (b := b) (i + 1) (k + 1)
    have hi' := lcsAt_hi (a := a) (b := b) (i + 1) (k + 1)
    have ih := ilcs_l3 (by unfold maxi; exact hb) hN hi (R := R) k m (by omega) (by omega)
    simp only [impl_lcs_l3, jn, e1, e2, e3, e4, gi_of hx, gi_of hy, Option.bind_some, decide_eq_true (show (0 : Int) ≤ (k : Int) by omega), cond_true,
      tabF_at (show i < a.length + 1 by omega), tabF_at (show i + 1 < a.length + 1 by omega), rowF_at (show k < b.length + 1 by omega), rowF_at (show k + 1 < b.length + 1 by omega), s1, s2, s3,
      rowF_set (show k < b.length + 1 by omega), tabF_set (show i < a.length + 1 by omega)]
    cases he : a[i] == b[k] with
    | true =>
      rw [he, if_pos rfl] at hst
      rw [cond_true, w64_id (by omega) (by omega), stage_row hst.symm]
      exact ih
    | false =>
      rw [he, if_neg (by simp)] at hst
      rw [cond_false, stage_row hst.symm]
      exact ih
theorem ilcs_l2 (hb : b.length ≤ maxi) (hN : (a.length : Int) + 1 ≤ 9223372036854775807) (hNb : (b.length : Int) + 1 ≤ 9223372036854775807) {R : Int → List (List Int) → Option (List (List Int))} : ∀ (i m : Nat), i ≤ a.length → i < m →
    impl_lcs_l2 a b R m ((i : Int) - 1) (tabF (a.length + 1) (b.length + 1) (stage a b i 0)) = R (-1) (tabF (a.length + 1) (b.length + 1) (stage a b 0 0))
  | 0, 0, _, h => by omega
  | 0, m + 1, _, _ => by
    simp only [impl_lcs_l2]
    rw [decide_eq_false (by omega)]; rfl
  | i + 1, 0, _, h => by omega
  | i + 1, m + 1, hi, hm => by
    have e1 : (((i + 1 : Nat) : Int) - 1) = (i : Int) := by omega
    have e2 : w64 ((b.length : Int) - 1) = (b.length : Int) - 1 := w64_id (by omega) (by omega)
    have e3 : w64 ((i : Int) - 1) = (i : Int) - 1 := w64_id (by omega) (by omega)
    simp only [impl_lcs_l2, jn, e1, e2, decide_eq_true (show (0 : Int) ≤ (i : Int) by omega), cond_true]
    rw [stage_next, ilcs_l3 hb hN (by omega) b.length _ (Nat.le_refl _) (by omega), e3]
    exact ilcs_l2 hb hN hNb i m (by omega) (by omega)
theorem ilcs_l1 (hb : b.length ≤ 1048576) {N : Nat} (hN : N ≤ 1048576) {q : List (List Int)} (hq : q.length = N) {R : Int → List (List Int) → Option (List (List Int))} : ∀ (n i m : Nat), i + n = N → n < m →
    impl_lcs_l1 b q R m (i : Int) ((List.range i).map (fun _ => rowF (b.length + 1) fun _ => 0) ++ List.replicate n []) = R (N : Int) (tabF N (b.length + 1) fun _ _ => 0)
  | n, i, 0, _, h => by omega
  | 0, i, m + 1, hi, _ => by
    simp only [impl_lcs_l1]
    rw [hq, decide_eq_false (by omega), show i = N by omega]
    simp [tabF]
  | n + 1, i, m + 1, hi, hm => by
    have e1 : w64 ((b.length : Int) + 1) = ((b.length + 1 : Nat) : Int) := by rw [w64_id (by omega) (by omega)]; omega
    have e2 : w64 ((i : Int) + 1) = ((i + 1 : Nat) : Int) := by rw [w64_id (by omega) (by omega)]; omega
    have hl : ((List.range i).map (fun _ => rowF (b.length + 1) fun _ => 0) ++ List.replicate (n + 1) []).length = i + (n + 1) := by simp
    obtain ⟨u, hu⟩ : ∃ u, ((List.range i).map (fun _ => rowF (b.length + 1) fun _ => 0) ++ List.replicate (n + 1) ([] : List Int))[i]? = some u := ⟨_, List.getElem?_eq_getElem (by omega)⟩
    simp only [impl_lcs_l1, hq, e1, e2, decide_eq_true (show (i : Int) < (N : Int) by omega), cond_true, mkM_of (show b.length + 1 ≤ lim by unfold lim; omega), Option.bind_some, gi_of hu]
    rw [siM_of (by rw [hl]; omega), Option.bind_some]
    have hset : ((List.range i).map (fun _ => rowF (b.length + 1) fun _ => 0) ++ List.replicate (n + 1) []).set i (List.replicate (b.length + 1) (0 : Int)) = (List.range (i + 1)).map (fun _ => rowF (b.length + 1) fun _ => 0) ++ List.replicate n [] := by
      rw [List.set_append, if_neg (by simp)]
      have hr : rowF (b.length + 1) (fun _ => 0) = List.replicate (b.length + 1) (0 : Int) := by
        unfold rowF
        rw [List.map_const', List.length_range]
      simp [List.range_succ, List.replicate_succ, hr]
    rw [hset]
    exact ilcs_l1 hb hN hq n (i + 1) m (by omega) (by omega)
theorem ilcs_eq (ha : a.length ≤ 1000) (hb : b.length ≤ 1000) : impl_lcs a b = some (lcsT a b) := by
  unfold impl_lcs
  have e1 : w64 ((a.length : Int) + 1) = ((a.length + 1 : Nat) : Int) := by rw [w64_id (by omega) (by omega)]; omega
  have e2 : w64 ((a.length : Int) - 1) = (a.length : Int) - 1 := w64_id (by omega) (by omega)
  rw [e1, mkM_of (by unfold lim; omega), Option.bind_some]
  simp only [jn, e2]
  have h1 := ilcs_l1 (b := b) (by omega) (N := a.length + 1) (by omega) (q := List.replicate (a.length + 1) []) (by simp)
    (R := fun y6 y7 => impl_lcs_l2 a b (fun y27 y29 => some y29) (((a.length : Int) - 1 + 1 - 0).toNat + 1) ((a.length : Int) - 1) y7) (a.length + 1) 0 (((List.replicate (a.length + 1) ([] : List Int)).length - (0 : Int)).toNat + 1) (by omega) (by simp)
  simp only [List.range_zero, List.map_nil, List.nil_append] at h1
  refine h1.trans ?_
  rw [stage_start, ilcs_l2 (by unfold maxi; omega) (by omega) (by omega) a.length _ (Nat.le_refl _) (by omega), stage_end]

/-! ### The reference's table -/
theorem slcs_l3 (hb : b.length ≤ maxi) (hN : (a.length : Int) + 1 ≤ 9223372036854775807) {i : Nat} (hi : i < a.length) {R : Int → List (List Int) → Option (List (List Int))} : ∀ (k m : Nat), k ≤ b.length → k < m →
    spec_l1Table_l3 a b (i : Int) R m ((k : Int) - 1) (tabF (a.length + 1) (b.length + 1) (stage a b i k)) = R (-1) (tabF (a.length + 1) (b.length + 1) (stage a b i 0))
  | 0, 0, _, h => by omega
  | 0, m + 1, _, _ => by
    simp only [spec_l1Table_l3]
    rw [decide_eq_false (by omega)]; rfl
  | k + 1, 0, _, h => by omega
  | k + 1, m + 1, hk, hm => by
    unfold maxi at hb
    have hx : a[i]? = some a[i] := List.getElem?_eq_getElem hi
    have hy : b[k]? = some b[k] := List.getElem?_eq_getElem (by omega)
    have hst := lcsAt_step hx hy
    have e1 : (((k + 1 : Nat) : Int) - 1) = (k : Int) := by omega
    have e2 : w64 ((i : Int) + 1) = ((i + 1 : Nat) : Int) := by rw [w64_id (by omega) (by omega)]; omega
    have e3 : w64 ((k : Int) + 1) = ((k + 1 : Nat) : Int) := by rw [w64_id (by omega) (by omega)]; omega
    have e4 : w64 ((k : Int) - 1) = (k : Int) - 1 := w64_id (by omega) (by omega)
    have s1 : stage a b i (k + 1) (i + 1) (k + 1) = lcsAt a b (i + 1) (k + 1) := by simp [stage]
    have s2 : stage a b i (k + 1) (i + 1) k = lcsAt a b (i + 1) k := by simp [stage]
    have s3 : stage a b i (k + 1) i (k + 1) = lcsAt a b i (k + 1) := by simp [stage]
    have lo := lcsAt_lo (a := a) (b := b) (i + 1) (k + 1)
    have hi' := lcsAt_hi (a := a) (b := b) (i + 1) (k + 1)
    have ih := slcs_l3 (by unfold maxi; exact hb) hN hi (R := R) k m (by omega) (by omega)
    simp only [spec_l1Table_l3, jn, e1, e2, e3, e4, gi_of hx, gi_of hy, Option.bind_some, decide_eq_true (show (0 : Int) ≤ (k : Int) by omega), cond_true,
      tabF_at (show i < a.length + 1 by omega), tabF_at (show i + 1 < a.length + 1 by omega), rowF_at (show k < b.length + 1 by omega), rowF_at (show k + 1 < b.length + 1 by omega), s1, s2, s3,
      rowF_set (show k < b.length + 1 by omega), tabF_set (show i < a.length + 1 by omega)]
    cases he : a[i] == b[k] with
    | true =>
      rw [he, if_pos rfl] at hst
      rw [cond_true, w64_id (by omega) (by omega), stage_row hst.symm]
      exact ih
    | false =>
      rw [he, if_neg (by simp)] at hst
      rw [cond_false]
      unfold maxI at hst
      by_cases hc : lcsAt a b i (k + 1) ≤ lcsAt a b (i + 1) k
      · rw [if_neg (by omega)] at hst
        rw [decide_eq_true hc, cond_true, stage_row hst.symm]
        exact ih
      · rw [if_pos (by omega)] at hst
        rw [decide_eq_false hc, cond_false, stage_row hst.symm]
        exact ih
theorem slcs_l2 (hb : b.length ≤ maxi) (hN : (a.length : Int) + 1 ≤ 9223372036854775807) (hNb : (b.length : Int) + 1 ≤ 9223372036854775807) {R : Int → List (List Int) → Option (List (List Int))} : ∀ (i m : Nat), i ≤ a.length → i < m →
    spec_l1Table_l2 a b R m ((i : Int) - 1) (tabF (a.length + 1) (b.length + 1) (stage a b i 0)) = R (-1) (tabF (a.length + 1) (b.length + 1) (stage a b 0 0))
  | 0, 0, _, h => by omega
  | 0, m + 1, _, _ => by
    simp only [spec_l1Table_l2]
    rw [decide_eq_false (by omega)]; rfl
  | i + 1, 0, _, h => by omega
  | i + 1, m + 1, hi, hm => by
    have e1 : (((i + 1 : Nat) : Int) - 1) = (i : Int) := by omega
    have e2 : w64 ((b.length : Int) - 1) = (b.length : Int) - 1 := w64_id (by omega) (by omega)
    have e3 : w64 ((i : Int) - 1) = (i : Int) - 1 := w64_id (by omega) (by omega)
    simp only [spec_l1Table_l2, jn, e1, e2, decide_eq_true (show (0 : Int) ≤ (i : Int) by omega), cond_true]
    rw [stage_next, slcs_l3 hb hN (by omega) b.length _ (Nat.le_refl _) (by omega), e3]
    exact slcs_l2 hb hN hNb i m (by omega) (by omega)
theorem slcs_l1 (ha : a.length ≤ 1000) (hb : b.length ≤ 1000) {R : List (List Int) → Int → Option (List (List Int))} : ∀ (n i m : Nat), i + n = a.length + 1 → n < m →
    spec_l1Table_l1 a b R m ((List.range i).map (fun _ => rowF (b.length + 1) fun _ => 0)) (i : Int) = R (tabF (a.length + 1) (b.length + 1) fun _ _ => 0) ((a.length + 1 : Nat) : Int)
  | n, i, 0, _, h => by omega
  | 0, i, m + 1, hi, _ => by
    simp only [spec_l1Table_l1]
    rw [decide_eq_false (by omega), show i = a.length + 1 by omega]
    simp [tabF]
  | n + 1, i, m + 1, hi, hm => by
    have e1 : w64 ((b.length : Int) + 1) = ((b.length + 1 : Nat) : Int) := by rw [w64_id (by omega) (by omega)]; omega
    have e2 : w64 ((i : Int) + 1) = ((i + 1 : Nat) : Int) := by rw [w64_id (by omega) (by omega)]; omega
    have hr : rowF (b.length + 1) (fun _ => 0) = List.replicate (b.length + 1) (0 : Int) := by
      unfold rowF
      rw [List.map_const', List.length_range]
    simp only [spec_l1Table_l1, e1, e2, decide_eq_true (show (i : Int) ≤ (a.length : Int) by omega), cond_true, mkM_of (show b.length + 1 ≤ lim by unfold lim; omega), Option.bind_some]
    rw [apM_of (by simp [lim]; omega), Option.bind_some]
    have hset : (List.range i).map (fun _ => rowF (b.length + 1) fun _ => 0) ++ [List.replicate (b.length + 1) (0 : Int)] = (List.range (i + 1)).map (fun _ => rowF (b.length + 1) fun _ => 0) := by
      simp [List.range_succ, hr]
    rw [hset]
    exact slcs_l1 ha hb n (i + 1) m (by omega) (by omega)
theorem slcs_eq (ha : a.length ≤ 1000) (hb : b.length ≤ 1000) : spec_l1Table a b = some (lcsT a b) := by
  unfold spec_l1Table
  have e2 : w64 ((a.length : Int) - 1) = (a.length : Int) - 1 := w64_id (by omega) (by omega)
  simp only [jn, e2]
  have h1 := slcs_l1 (a := a) (b := b) ha hb
    (R := fun y3 y6 => spec_l1Table_l2 a b (fun y28 y30 => some y30) (((a.length : Int) - 1 + 1 - 0).toNat + 1) ((a.length : Int) - 1) y3) (a.length + 1) 0 (((a.length : Int) + 1 - 0).toNat + 1) (by omega) (by omega)
  simp only [List.range_zero, List.map_nil] at h1
  refine h1.trans ?_
  rw [stage_start, slcs_l2 (by unfold maxi; omega) (by omega) (by omega) a.length _ (Nat.le_refl _) (by omega), stage_end]
end
end Go.Vm
