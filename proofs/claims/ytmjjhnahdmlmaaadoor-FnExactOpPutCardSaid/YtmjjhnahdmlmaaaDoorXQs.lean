/- Plain laws of paths: both sides cut at strokes. Conditions: each law's own premises. -/
import Derived.Test.YtmjjhnahdmlmaaaDoorXQo0
import Derived.Lib.SplitLaws
namespace Go.Vm
open Go Go.Sx
set_option linter.unusedSimpArgs false
set_option linter.unusedVariables false

/-- What is behind w, cut at each c. -/
def curS (c : UInt8) : Str → Str → List Str
  | w, [] => [w]
  | w, x :: r => bif x == c then w :: curS c [] r else curS c (w ++ [x]) r
/-- The same, cut n times at most. -/
def curN (c : UInt8) : Nat → Str → Str → List Str
  | _, w, [] => [w]
  | 0, w, x :: r => [w ++ x :: r]
  | n + 1, w, x :: r => bif x == c then w :: curN c n [] r else curN c (n + 1) (w ++ [x]) r
theorem curS_len (c : UInt8) : ∀ (r w : Str), 1 ≤ (curS c w r).length
  | [], w => by simp [curS]
  | x :: r, w => by
    unfold curS
    cases x == c
    · exact curS_len c r _
    · simp
theorem curN_zero (c : UInt8) (w r : Str) : curN c 0 w r = [w ++ r] := by
  cases r <;> simp [curN]
theorem curN_same (c : UInt8) : ∀ (r : Str) (n : Nat) (w : Str), (curS c w r).length ≤ n + 1 → curN c n w r = curS c w r
  | [], n, w, h => by cases n <;> simp [curN, curS]
  | x :: r, 0, w, h => by
    unfold curS at h ⊢
    cases hx : x == c with
    | true =>
      rw [hx, cond_true] at h
      have := curS_len c r []
      rw [List.length_cons] at h
      omega
    | false =>
      rw [hx, cond_false] at h
      have ih := curN_same c r 0 (w ++ [x]) h
      rw [cond_false, ← ih, curN_zero, curN_zero]
      simp
  | x :: r, n + 1, w, h => by
    unfold curS at h ⊢
    unfold curN
    cases hx : x == c with
    | true =>
      rw [hx, cond_true, List.length_cons] at h
      rw [cond_true, cond_true, curN_same c r n [] (by omega)]
    | false =>
      rw [hx, cond_false] at h
      rw [cond_false, cond_false, curN_same c r (n + 1) _ h]
theorem curN_full (c : UInt8) : ∀ (r : Str) (n : Nat) (w : Str), n + 1 ≤ (curS c w r).length → (curN c n w r).length = n + 1
  | [], n, w, h => by
    simp [curS] at h
    subst h
    simp [curN]
  | x :: r, 0, w, h => by simp [curN]
  | x :: r, n + 1, w, h => by
    unfold curS at h
    unfold curN
    cases hx : x == c with
    | true =>
      rw [hx, cond_true, List.length_cons] at h
      rw [cond_true, List.length_cons, curN_full c r n [] (by omega)]
    | false =>
      rw [hx, cond_false] at h
      rw [cond_false, curN_full c r (n + 1) _ h]
theorem index_not {c : UInt8} {w : Str} (h : c ∉ w) : Lib.index w [c] = -1 := Lib.index_none fun j hj => by
  cases ho : Lib.occAt w [c] j with
  | false => rfl
  | true => exact absurd (List.mem_of_getElem? (Lib.occAt_head rfl ho)) h
theorem index_at {c : UInt8} {w r : Str} (h : c ∉ w) : Lib.index (w ++ c :: r) [c] = ((w.length : Nat) : Int) := Lib.index_first (by simp) (by simp [Lib.occAt, List.isPrefixOf]) fun j hj => by
  cases ho : Lib.occAt (w ++ c :: r) [c] j with
  | false => rfl
  | true =>
    have := Lib.occAt_head rfl ho
    rw [List.getElem?_append_left hj] at this
    exact absurd (List.mem_of_getElem? this) h
theorem split_cur (c : UInt8) : ∀ (r w : Str), c ∉ w → Lib.split (w ++ r) [c] = curS c w r
  | [], w, h => by
    unfold Lib.split curS
    rw [List.append_nil, Lib.count_miss (index_not h)]
    rfl
  | x :: r, w, h => by
    unfold curS
    cases hx : x == c with
    | true =>
      have e : x = c := by simpa using hx
      subst e
      have hi := index_at (r := r) h
      rw [cond_true]
      have ih := split_cur x r [] (by simp)
      unfold Lib.split at ih ⊢
      have hd : (w ++ x :: r).drop (w.length + 1) = r := by
        rw [show w ++ x :: r = (w ++ [x]) ++ r by simp, List.drop_left' (by simp)]
      have hc : Lib.count (w ++ x :: r) [x] = Lib.count r [x] + 1 := by
        rw [Lib.count_hit (by simp) hi]
        show 1 + Lib.count ((w ++ x :: r).drop (w.length + 1)) [x] = _
        rw [hd]
        omega
      rw [hc]
      unfold Lib.splitK
      rw [if_neg (by rw [hi]; simp), hi]
      have e1 : (w ++ x :: r).take (((w.length : Nat) : Int).toNat + 0) = w := by simp
      have e2 : (w ++ x :: r).drop (((w.length : Nat) : Int).toNat + [x].length) = r := hd
      rw [e1, e2]
      simp only [List.nil_append] at ih
      rw [ih]
    | false =>
      have hne : x ≠ c := by simpa using hx
      rw [cond_false, show w ++ x :: r = (w ++ [x]) ++ r by simp]
      exact split_cur c r (w ++ [x]) (by
        rw [List.mem_append, List.mem_singleton]
        rintro (h1 | h1)
        · exact h h1
        · exact hne h1.symm)
theorem split_eq (c : UInt8) (s : Str) : Lib.split s [c] = curS c [] s := split_cur c s [] (by simp)

theorem byte_eq (u c : UInt8) : (((UInt8.toNat u : Nat) : Int) == ((UInt8.toNat c : Nat) : Int)) = (u == c) := by
  have : ∀ b c : Bool, (b = true ↔ c = true) → b = c := by decide
  apply this
  rw [beq_iff_eq, beq_iff_eq, ← UInt8.toNat_inj]
  omega
theorem cut_l1 {s : Str} {c : UInt8} {most : Nat} (hs : s.length ≤ 1048576) (hm : most ≤ 1000) : ∀ (n : Nat) (out : List Str) (from_ i m : Nat), i + n = s.length → n < m → from_ ≤ i → out.length ≤ most →
    spec_l1Cut_l1 s c (most : Int) (fun y3 y6 y7 => (slM s y6 (s.length : Int)).bind fun q38 => (apM y3 [q38]).bind fun q43 => some q43) m out (from_ : Int) (i : Int) = some (out ++ curN c (most - out.length) ((s.take i).drop from_) (s.drop i))
  | n, out, f, i, 0, _, hm, _, _ => by omega
  | n, out, f, i, m + 1, hi, hn, hf, ho => by
    have hdone : (slM s (f : Int) (s.length : Int)).bind (fun q38 => (apM out [q38]).bind fun q43 => some q43) = some (out ++ [s.drop f]) := by
      rw [slM_drop (by omega), Option.bind_some, ap1 (by omega), Option.bind_some]
    have hw : (s.take i).drop f ++ s.drop i = s.drop f := by
      rw [← List.drop_append_of_le_length (by simp; omega), List.take_append_drop]
    simp only [spec_l1Cut_l1, jn]
    by_cases h1 : (i : Int) < (s.length : Int)
    case neg =>
      rw [decide_eq_false h1, cond_false, cond_false, hdone]
      have : s.drop i = [] := List.drop_eq_nil_of_le (by omega)
      rw [this] at hw ⊢
      rw [List.append_nil] at hw
      rw [hw]
      cases most - out.length <;> simp [curN]
    rw [decide_eq_true h1, cond_true]
    have hlt : i < s.length := by omega
    have hx : s[i]? = some s[i] := List.getElem?_eq_getElem hlt
    by_cases h2 : (out.length : Int) < (most : Int)
    case neg =>
      rw [decide_eq_false h2, cond_false, hdone]
      have : most - out.length = 0 := by omega
      rw [this, curN_zero, hw]
    obtain ⟨n, rfl⟩ : ∃ k, n = k + 1 := ⟨n - 1, by omega⟩
    obtain ⟨k, hk⟩ : ∃ k, most - out.length = k + 1 := ⟨most - out.length - 1, by omega⟩
    rw [decide_eq_true h2, cond_true, chM_of hx, Option.bind_some, byte_eq, hk, List.drop_eq_getElem_cons hlt]
    unfold curN
    cases hb : s[i] == c with
    | true =>
      rw [cond_true, cond_true, slM_of (by omega) (by omega) (by omega), Option.bind_some, ap1 (by omega), Option.bind_some, w64_ix hlt (by unfold maxi; omega), cut_l1 hs hm n _ (i + 1) (i + 1) m (by omega) (by omega) (by omega) (by simp; omega)]
      have e1 : most - (out ++ [((s.take ((i : Nat) : Int).toNat)).drop ((f : Nat) : Int).toNat]).length = k := by simp; omega
      have e2 : (s.take (i + 1)).drop (i + 1) = [] := List.drop_eq_nil_of_le (by simp; omega)
      rw [e1, e2]
      simp
    | false =>
      rw [cond_false, cond_false, w64_ix hlt (by unfold maxi; omega), cut_l1 hs hm n _ f (i + 1) m (by omega) (by omega) (by omega) ho, hk]
      have e2 : (s.take (i + 1)).drop f = (s.take i).drop f ++ [s[i]] := by
        rw [List.take_add_one, hx]
        rw [List.drop_append_of_le_length (by simp; omega)]
        rfl
      rw [e2]
theorem l1Cut_eq {s : Str} {c : UInt8} {most : Nat} (hs : s.length ≤ 1048576) (hm : most ≤ 1000) : spec_l1Cut s c (most : Int) = some (curN c most [] s) := by
  unfold spec_l1Cut
  simp only [jn]
  have := cut_l1 (c := c) (most := most) hs hm s.length [] 0 0 (s.length + 1) (by omega) (by omega) (Nat.le_refl _) (by simp)
  simpa using this

/-! ### Paths -/
def pathB (s : Str) : Bool := decide ((curS 47 [] s).length ≤ 3) && (curS 47 [] s).all nameB
theorem curS_fit (c : UInt8) : ∀ (r w : Str), ∀ p ∈ curS c w r, p.length ≤ w.length + r.length
  | [], w, p, h => by simp [curS] at h; rw [h]; omega
  | x :: r, w, p, h => by
    unfold curS at h
    cases hx : x == c with
    | true =>
      rw [hx, cond_true] at h
      rcases List.mem_cons.1 h with e | e
      · rw [e]; omega
      · have := curS_fit c r [] p e
        simp at this ⊢
        omega
    | false =>
      rw [hx, cond_false] at h
      have := curS_fit c r (w ++ [x]) p h
      simp at this ⊢
      omega
theorem curS_long (c : UInt8) : ∀ (r w : Str), (curS c w r).length ≤ r.length + 1
  | [], w => by simp [curS]
  | x :: r, w => by
    unfold curS
    cases x == c
    · have := curS_long c r (w ++ [x]); simp at this ⊢; omega
    · have := curS_long c r []; simp at this ⊢; omega
theorem PathOk_eq {s : Str} (h : s.length ≤ 1048576) : impl_PathOk s = some (pathB s) := by
  unfold impl_PathOk strings_Split pathB
  rw [if_pos ⟨by omega, by simp⟩, Option.bind_some, split_eq]
  have hl := curS_long 47 s []
  by_cases h3 : (3 : Int) < ((curS 47 [] s).length : Int)
  · rw [decide_eq_true h3, cond_true, decide_eq_false (by omega)]; rfl
  rw [decide_eq_false h3, cond_false, decide_eq_true (by omega), Bool.true_and]
  simp only [jn, fuel0]
  rw [loop_list (α := Str) (xs := curS 47 [] s) (p := nameB) (r0 := some false) (Z := some true) (f := fun m i => impl_PathOk_l1 (curS 47 [] s) (fun _ _ => some true) m false i) (fun m i x hx => by
    have hf := curS_fit 47 s [] x (List.mem_of_getElem? hx)
    simp only [impl_PathOk_l1, lt_of hx, gi_of hx, cond_true, Option.bind_some, w64_ix (ix_of hx) (show (curS 47 [] s).length ≤ maxi by unfold maxi; omega), nameOk_eq (show x.length ≤ maxi by unfold maxi; simp at hf; omega)]
    cases nameB x <;> rfl) (fun m => by simp only [impl_PathOk_l1, end_of, cond_false]) (by omega)]
  cases (curS 47 [] s).all nameB <;> rfl
theorem curN_fit (c : UInt8) : ∀ (r : Str) (n : Nat) (w : Str), ∀ p ∈ curN c n w r, p.length ≤ w.length + r.length
  | [], n, w, p, h => by cases n <;> simp [curN] at h <;> rw [h] <;> omega
  | x :: r, 0, w, p, h => by simp [curN] at h; rw [h]; simp
  | x :: r, n + 1, w, p, h => by
    unfold curN at h
    cases hx : x == c with
    | true =>
      rw [hx, cond_true] at h
      rcases List.mem_cons.1 h with e | e
      · rw [e]; omega
      · have := curN_fit c r n [] p e
        simp at this ⊢
        omega
    | false =>
      rw [hx, cond_false] at h
      have := curN_fit c r (n + 1) (w ++ [x]) p h
      simp at this ⊢
      omega
theorem l4Path_eq {s : Str} (h : s.length ≤ 1048576) : spec_l4Path s = some (pathB s) := by
  unfold spec_l4Path pathB
  have e47 : (UInt8.ofNatLT 47 (by decide) : UInt8) = 47 := by decide
  have hc := l1Cut_eq (c := UInt8.ofNatLT 47 (by decide)) (most := 3) h (by omega)
  rw [show (3 : Int) = ((3 : Nat) : Int) from rfl, hc, Option.bind_some, e47]
  simp only [jn, fuel0]
  have hlen : (curN 47 3 [] s).length ≤ maxi := by
    rcases Nat.lt_or_ge (curS 47 [] s).length 4 with h1 | h1
    · rw [curN_same 47 s 3 [] (by omega)]; unfold maxi; omega
    · rw [curN_full 47 s 3 [] h1]; unfold maxi; omega
  rw [loop_list (α := Str) (xs := curN 47 3 [] s) (p := nameB) (r0 := some false) (Z := some (decide (((curN 47 3 [] s).length : Int) ≤ ((3 : Nat) : Int)))) (f := fun m i => spec_l4Path_l1 (curN 47 3 [] s) (fun _ _ => some (decide (((curN 47 3 [] s).length : Int) ≤ ((3 : Nat) : Int)))) m false i) (fun m i x hx => by
    have hf := curN_fit 47 s 3 [] x (List.mem_of_getElem? hx)
    simp only [spec_l4Path_l1, lt_of hx, gi_of hx, cond_true, Option.bind_some, w64_ix (ix_of hx) hlen, l4Name_eq (show x.length ≤ maxi by unfold maxi; simp at hf; omega)]
    cases nameB x <;> rfl) (fun m => by simp only [spec_l4Path_l1, end_of, cond_false]) (by omega)]
  rcases Nat.lt_or_ge (curS 47 [] s).length 4 with h1 | h1
  · rw [curN_same 47 s 3 [] (by omega), decide_eq_true (show ((curS 47 [] s).length : Int) ≤ ((3 : Nat) : Int) by omega), decide_eq_true (show (curS 47 [] s).length ≤ 3 by omega)]
    cases (curS 47 [] s).all nameB <;> rfl
  · rw [curN_full 47 s 3 [] h1, decide_eq_false (show ¬ (curS 47 [] s).length ≤ 3 by omega)]
    cases (curN 47 3 [] s).all nameB <;> rfl
end Go.Vm
