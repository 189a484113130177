/- Plain laws of how lines of two texts are matched: both sides match alike, and what is matched ascends. Conditions: each law's own premises. -/
import Derived.Test.YtjdljoplpcakpaaXQe
namespace Go.Vm
open Go Go.Sx
set_option linter.unusedSimpArgs false
set_option linter.unusedVariables false

/-- Of each line of the first text which of the second it is, counted from k on; -1, if it is none. -/
def mtF : List Str → List Str → Nat → List Int
  | [], _, _ => []
  | _ :: xs, [], k => -1 :: mtF xs [] k
  | x :: xs, y :: ys, k => if x == y then (k : Int) :: mtF xs ys (k + 1) else if lcsL (x :: xs) ys ≤ lcsL xs (y :: ys) then -1 :: mtF xs (y :: ys) k else mtF (x :: xs) ys (k + 1)
termination_by a b _ => a.length + b.length
theorem mtF_nil (b : List Str) (k : Nat) : mtF [] b k = [] := by rw [mtF]
theorem mtF_nilr (x : Str) (xs : List Str) (k : Nat) : mtF (x :: xs) [] k = -1 :: mtF xs [] k := by rw [mtF]
theorem mtF_cons (x y : Str) (xs ys : List Str) (k : Nat) : mtF (x :: xs) (y :: ys) k = if x == y then (k : Int) :: mtF xs ys (k + 1) else if lcsL (x :: xs) ys ≤ lcsL xs (y :: ys) then -1 :: mtF xs (y :: ys) k else mtF (x :: xs) ys (k + 1) := by rw [mtF]
def mt2 (a b : List Str) : List Int := mtF a b 0
theorem ap1' {xs : List Int} {x : Int} (h : xs.length ≤ 1000000) : apM xs [x] = some (xs ++ [x]) := apM_of (by simp [lim]; omega)
section
variable {a b : List Str}
theorem lcsT_at {i k : Nat} (hi : i ≤ a.length) (hk : k ≤ b.length) : ∃ r, gi (lcsT a b) (i : Int) = some r ∧ gi r (k : Int) = some (lcsAt a b i k) :=
  ⟨_, tabF_at (by omega), rowF_at (by omega)⟩
theorem drop_at {i : Nat} (h : i < a.length) : a.drop i = a[i] :: a.drop (i + 1) := List.drop_eq_getElem_cons h
theorem imt_l1 (ha : a.length ≤ 1000) (hb : b.length ≤ 1000) : ∀ (m i k : Nat) (out : List Int), (a.length - i) + (b.length - k) < m → i ≤ a.length → k ≤ b.length → out.length = i →
    impl_match_l1 a b (lcsT a b) (fun y5 _ _ => some y5) m out (i : Int) (k : Int) = some (out ++ mtF (a.drop i) (b.drop k) k)
  | 0, i, k, out, hm, _, _, _ => by omega
  | m + 1, i, k, out, hm, hi, hk, ho => by
    have e2 : w64 ((i : Int) + 1) = ((i + 1 : Nat) : Int) := by rw [w64_id (by omega) (by omega)]; omega
    have e3 : w64 ((k : Int) + 1) = ((k + 1 : Nat) : Int) := by rw [w64_id (by omega) (by omega)]; omega
    simp only [impl_match_l1, jn, e2, e3]
    by_cases hil : i < a.length
    case neg =>
      rw [decide_eq_false (by omega), cond_false, show i = a.length by omega, List.drop_length, mtF_nil, List.append_nil]
    have hx : a[i]? = some a[i] := List.getElem?_eq_getElem hil
    rw [decide_eq_true (by omega), cond_true, drop_at hil]
    by_cases hkl : k < b.length
    case neg =>
      have hke : k = b.length := by omega
      rw [decide_eq_false (by omega), cond_false, cond_false, show ((k : Int) == (b.length : Int)) = true by simp [hke], cond_true, cond_true, ap1' (by omega), Option.bind_some,
        imt_l1 ha hb m (i + 1) k _ (by omega) (by omega) hk (by simp [ho])]
      rw [hke, List.drop_length, mtF_nilr]
      simp
    have hy : b[k]? = some b[k] := List.getElem?_eq_getElem hkl
    rw [decide_eq_true (by omega), cond_true, gi_of hx, Option.bind_some, gi_of hy, Option.bind_some, drop_at hkl, mtF_cons]
    cases he : a[i] == b[k] with
    | true =>
      rw [cond_true, ap1' (by omega), Option.bind_some, imt_l1 ha hb m (i + 1) (k + 1) _ (by omega) (by omega) (by omega) (by simp [ho])]
      simp
    | false =>
      rw [cond_false, show ((k : Int) == (b.length : Int)) = false by simp; omega, cond_false]
      obtain ⟨r1, h1, h2⟩ := lcsT_at (a := a) (b := b) (i := i + 1) (k := k) (by omega) (by omega)
      obtain ⟨r3, h3, h4⟩ := lcsT_at (a := a) (b := b) (i := i) (k := k + 1) (by omega) (by omega)
      rw [h1, Option.bind_some, h2, Option.bind_some, h3, Option.bind_some, h4, Option.bind_some]
      have c1 : lcsAt a b i (k + 1) = lcsL (a[i] :: a.drop (i + 1)) (b.drop (k + 1)) := by unfold lcsAt; rw [drop_at hil]
      have c2 : lcsAt a b (i + 1) k = lcsL (a.drop (i + 1)) (b[k] :: b.drop (k + 1)) := by unfold lcsAt; rw [drop_at hkl]
      rw [← c1, ← c2]
      by_cases hc : lcsAt a b i (k + 1) ≤ lcsAt a b (i + 1) k
      · rw [decide_eq_true hc, cond_true, ap1' (by omega), Option.bind_some, imt_l1 ha hb m (i + 1) k _ (by omega) (by omega) hk (by simp [ho]), if_neg (by simp), if_pos hc, drop_at hkl]
        simp
      · rw [decide_eq_false hc, cond_false, imt_l1 ha hb m i (k + 1) _ (by omega) hi (by omega) ho, if_neg (by simp), if_neg hc, drop_at hil]
theorem imatch_eq (ha : a.length ≤ 1000) (hb : b.length ≤ 1000) : impl_match a b = some (mt2 a b) := by
  unfold impl_match
  rw [ilcs_eq ha hb, Option.bind_some]
  simp only [jn]
  have := imt_l1 ha hb (a.length + b.length + 1) 0 0 [] (by omega) (by omega) (by omega) rfl
  simpa [mt2] using this
theorem smt_l1 (ha : a.length ≤ 1000) (hb : b.length ≤ 1000) : ∀ (m i k : Nat) (out : List Int), (a.length - i) + (b.length - k) < m → i ≤ a.length → k ≤ b.length → out.length = i →
    spec_l1Match_l1 a b (lcsT a b) (fun y5 _ _ => some y5) m out (k : Int) (i : Int) = some (out ++ mtF (a.drop i) (b.drop k) k)
  | 0, i, k, out, hm, _, _, _ => by omega
  | m + 1, i, k, out, hm, hi, hk, ho => by
    have e2 : w64 ((i : Int) + 1) = ((i + 1 : Nat) : Int) := by rw [w64_id (by omega) (by omega)]; omega
    have e3 : w64 ((k : Int) + 1) = ((k + 1 : Nat) : Int) := by rw [w64_id (by omega) (by omega)]; omega
    simp only [spec_l1Match_l1, jn, e2, e3]
    by_cases hil : i < a.length
    case neg =>
      rw [decide_eq_false (by omega), cond_false, show i = a.length by omega, List.drop_length, mtF_nil, List.append_nil]
    have hx : a[i]? = some a[i] := List.getElem?_eq_getElem hil
    rw [decide_eq_true (by omega), cond_true, drop_at hil]
    by_cases hkl : k < b.length
    case neg =>
      have hke : k = b.length := by omega
      rw [decide_eq_false (by omega), cond_false, cond_false, decide_eq_true (by omega), cond_true, cond_true, ap1' (by omega), Option.bind_some,
        smt_l1 ha hb m (i + 1) k _ (by omega) (by omega) hk (by simp [ho])]
      rw [hke, List.drop_length, mtF_nilr]
      simp
    have hy : b[k]? = some b[k] := List.getElem?_eq_getElem hkl
    rw [decide_eq_true (by omega), cond_true, gi_of hx, Option.bind_some, gi_of hy, Option.bind_some, drop_at hkl, mtF_cons]
    cases he : a[i] == b[k] with
    | true =>
      rw [cond_true, ap1' (by omega), Option.bind_some, smt_l1 ha hb m (i + 1) (k + 1) _ (by omega) (by omega) (by omega) (by simp [ho])]
      simp
    | false =>
      rw [cond_false, decide_eq_false (by omega), cond_false]
      obtain ⟨r1, h1, h2⟩ := lcsT_at (a := a) (b := b) (i := i + 1) (k := k) (by omega) (by omega)
      obtain ⟨r3, h3, h4⟩ := lcsT_at (a := a) (b := b) (i := i) (k := k + 1) (by omega) (by omega)
      rw [h1, Option.bind_some, h2, Option.bind_some, h3, Option.bind_some, h4, Option.bind_some]
      have c1 : lcsAt a b i (k + 1) = lcsL (a[i] :: a.drop (i + 1)) (b.drop (k + 1)) := by unfold lcsAt; rw [drop_at hil]
      have c2 : lcsAt a b (i + 1) k = lcsL (a.drop (i + 1)) (b[k] :: b.drop (k + 1)) := by unfold lcsAt; rw [drop_at hkl]
      rw [← c1, ← c2]
      by_cases hc : lcsAt a b i (k + 1) ≤ lcsAt a b (i + 1) k
      · rw [decide_eq_true hc, cond_true, ap1' (by omega), Option.bind_some, smt_l1 ha hb m (i + 1) k _ (by omega) (by omega) hk (by simp [ho]), if_neg (by simp), if_pos hc, drop_at hkl]
        simp
      · rw [decide_eq_false hc, cond_false, smt_l1 ha hb m i (k + 1) _ (by omega) hi (by omega) ho, if_neg (by simp), if_neg hc, drop_at hil]
theorem smatch_eq (ha : a.length ≤ 1000) (hb : b.length ≤ 1000) : spec_l1Match a b = some (mt2 a b) := by
  unfold spec_l1Match
  rw [slcs_eq ha hb, Option.bind_some]
  simp only [jn]
  have := smt_l1 ha hb (a.length + b.length + 1) 0 0 [] (by omega) (by omega) (by omega) rfl
  simpa [mt2] using this
end
/-- Numbers from lo on, below hi, that ascend, and -1 among them. -/
def Asc (hi : Int) : Int → List Int → Prop
  | _, [] => True
  | lo, x :: l => (x = -1 ∧ Asc hi lo l) ∨ (lo ≤ x ∧ x < hi ∧ Asc hi (x + 1) l)
theorem Asc.mono {hi : Int} : ∀ {l : List Int} {lo lo' : Int}, lo' ≤ lo → Asc hi lo l → Asc hi lo' l
  | [], _, _, _, _ => trivial
  | x :: l, lo, lo', h, .inl ⟨h1, h2⟩ => .inl ⟨h1, Asc.mono h h2⟩
  | x :: l, lo, lo', h, .inr ⟨h1, h2, h3⟩ => .inr ⟨by omega, h2, h3⟩
theorem mtF_asc : ∀ (n : Nat) (a b : List Str) (k : Nat), a.length + b.length ≤ n → Asc ((k + b.length : Nat) : Int) (k : Int) (mtF a b k) ∧ (mtF a b k).length = a.length
  | _, [], b, k, _ => by rw [mtF_nil]; exact ⟨trivial, rfl⟩
  | 0, x :: xs, b, k, h => by simp at h
  | n + 1, x :: xs, [], k, h => by
    rw [mtF_nilr]
    have := mtF_asc n xs [] k (by simp at h ⊢; omega)
    exact ⟨.inl ⟨rfl, this.1⟩, by simp [this.2]⟩
  | n + 1, x :: xs, y :: ys, k, h => by
    simp only [List.length_cons] at h
    rw [mtF_cons]
    split
    · have := mtF_asc n xs ys (k + 1) (by omega)
      refine ⟨.inr ⟨Int.le_refl _, by simp only [List.length_cons]; omega, ?_⟩, by simp [this.2]⟩
      have h1 := this.1
      rw [show ((k + (y :: ys).length : Nat) : Int) = ((k + 1 + ys.length : Nat) : Int) by simp only [List.length_cons]; omega, show (k : Int) + 1 = ((k + 1 : Nat) : Int) by omega]
      exact h1
    · split
      · have := mtF_asc n xs (y :: ys) k (by simp; omega)
        exact ⟨.inl ⟨rfl, this.1⟩, by simp [this.2]⟩
      · have := mtF_asc n (x :: xs) ys (k + 1) (by simp; omega)
        refine ⟨?_, by simp [this.2]⟩
        have h1 := this.1
        rw [show ((k + (y :: ys).length : Nat) : Int) = ((k + 1 + ys.length : Nat) : Int) by simp only [List.length_cons]; omega]
        exact h1.mono (by omega)
theorem mt2_asc (a b : List Str) : Asc (b.length : Int) 0 (mt2 a b) ∧ (mt2 a b).length = a.length := by
  have := mtF_asc _ a b 0 (Nat.le_refl _)
  simpa [mt2] using this
theorem Asc.snoc {hi : Int} (h0 : 0 ≤ hi) : ∀ {l : List Int} {lo : Int}, lo ≤ hi → Asc hi lo l → Asc (hi + 1) lo (l ++ [hi])
  | [], lo, h, _ => .inr ⟨h, by omega, trivial⟩
  | x :: l, lo, h, .inl ⟨h1, h2⟩ => .inl ⟨h1, Asc.snoc h0 h h2⟩
  | x :: l, lo, h, .inr ⟨h1, h2, h3⟩ => .inr ⟨h1, by omega, Asc.snoc h0 (by omega) h3⟩
end Go.Vm
