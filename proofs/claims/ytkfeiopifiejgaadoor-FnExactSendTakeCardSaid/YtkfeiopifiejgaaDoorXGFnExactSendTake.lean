/- Plain law FnExactSendTake, and what it uses: what the models answer. Conditions: each law's own premises. -/
import Derived.Test.YtkfeiopifiejgaaDoorXMd
import Derived.Test.YtkfeiopifiejgaaDoorXLw
import Derived.Sort.Walk0
import Derived.Lib.SplitLaws
import Derived.Test.YtkfeiopifiejgaaDoorXX
import Derived.Lib.Join
namespace Go.Vm
open Go Go.Sx
set_option linter.unusedSimpArgs false
set_option linter.unusedVariables false

def chB (c : UInt8) : Bool := !(decide ((c.toNat : Int) < 32) || decide (126 < (c.toNat : Int)))
def lineB (s : Str) : Bool := !decide (12 < (s.length : Int)) && s.all chB
def textB (xs : List Str) : Bool := !decide (10 < (xs.length : Int)) && xs.all lineB
theorem ble_not (a b : Int) : decide (a ≤ b) = !decide (b < a) := by
  by_cases h : a ≤ b
  · rw [decide_eq_true h, decide_eq_false (by omega)]; rfl
  · rw [decide_eq_false h, decide_eq_true (by omega)]; rfl

theorem lineOk_eq {s : Str} (h : s.length ≤ maxi) : impl_lineOk s = some (lineB s) := by
  unfold impl_lineOk lineB
  simp only [jn, fuel0]
  cases decide ((12 : Int) < (s.length : Int))
  case true => rfl
  rw [cond_false, loop_list (α := UInt8) (xs := s) (p := chB) (r0 := some false) (Z := some true) (f := fun m i => impl_lineOk_l1 s (fun _ _ => some true) m false i) (fun m i x hx => by
    simp only [impl_lineOk_l1, jn, lt_of hx, chM_of hx, cond_true, Option.bind_some, w64_ix (ix_of hx) h, chB]
    cases decide ((x.toNat : Int) < 32) <;> cases decide (126 < (x.toNat : Int)) <;> rfl) (fun m => by simp only [impl_lineOk_l1, end_of, cond_false]) (by omega)]
  cases s.all chB <;> rfl
theorem l1Line_eq {s : Str} (h : s.length ≤ maxi) : spec_l1Line s = some (lineB s) := by
  unfold spec_l1Line lineB
  simp only [jn, fuel0, ble_not]
  rw [loop_list (α := UInt8) (xs := s) (p := chB) (r0 := some false) (Z := some (!decide (12 < (s.length : Int)))) (f := fun m i => spec_l1Line_l1 s (fun _ _ => some (!decide (12 < (s.length : Int)))) m false i) (fun m i x hx => by
    simp only [spec_l1Line_l1, jn, lt_of hx, chM_of hx, cond_true, Option.bind_some, w64_ix (ix_of hx) h, chB]
    cases decide ((x.toNat : Int) < 32) <;> cases decide (126 < (x.toNat : Int)) <;> rfl) (fun m => by simp only [spec_l1Line_l1, end_of, cond_false]) (by omega)]
  cases s.all chB <;> cases decide (12 < (s.length : Int)) <;> rfl
theorem TextOk_eq {xs : List Str} (h : Bk.fit xs) : impl_TextOk xs = some (textB xs) := by
  have hl := fit_len h
  unfold impl_TextOk textB
  simp only [jn, fuel0]
  cases decide ((10 : Int) < (xs.length : Int))
  case true => rfl
  rw [cond_false, loop_list (α := Str) (xs := xs) (p := lineB) (r0 := some false) (Z := some true) (f := fun m i => impl_TextOk_l1 xs (fun _ _ => some true) m false i) (fun m i x hx => by
    have hx2 : x.length ≤ maxi := fit_at h hx
    simp only [impl_TextOk_l1, lt_of hx, gi_of hx, cond_true, Option.bind_some, w64_ix (ix_of hx) hl, lineOk_eq hx2]
    cases lineB x <;> rfl) (fun m => by simp only [impl_TextOk_l1, end_of, cond_false]) (by omega)]
  cases xs.all lineB <;> rfl
theorem l1Ok_eq {xs : List Str} (h : Bk.fit xs) : spec_l1Ok xs = some (textB xs) := by
  have hl := fit_len h
  unfold spec_l1Ok textB
  simp only [jn, fuel0, ble_not]
  rw [loop_list (α := Str) (xs := xs) (p := lineB) (r0 := some false) (Z := some (!decide (10 < (xs.length : Int)))) (f := fun m i => spec_l1Ok_l1 xs (fun _ _ => some (!decide (10 < (xs.length : Int)))) m false i) (fun m i x hx => by
    have hx2 : x.length ≤ maxi := fit_at h hx
    simp only [spec_l1Ok_l1, lt_of hx, gi_of hx, cond_true, Option.bind_some, w64_ix (ix_of hx) hl, l1Line_eq hx2]
    cases lineB x <;> rfl) (fun m => by simp only [spec_l1Ok_l1, end_of, cond_false]) (by omega)]
  cases xs.all lineB <;> cases decide (10 < (xs.length : Int)) <;> rfl
end Go.Vm

namespace Go.Vm
open Go Go.Sx
set_option linter.unusedSimpArgs false
set_option linter.unusedVariables false

theorem copyText_eq {x : List Str} (h : x.length ≤ 1048576) : impl_copyText x = some x := by
  unfold impl_copyText
  rw [apN h]; rfl
end Go.Vm

namespace Go.Vm
open Go Go.Sx
set_option linter.unusedSimpArgs false
set_option linter.unusedVariables false

/-- The reader stands well. -/
def RdOk (r : l30Rd) (p : Int) : Prop := r.b.length ≤ 2000 ∧ 0 ≤ r.p ∧ r.p ≤ p

theorem RdOk.on {r : l30Rd} {p q : Int} (h : RdOk r p) (k : Int) (hk : 0 ≤ k) (hq : r.p + k ≤ q) : RdOk ⟨r.b, r.p + k⟩ q := ⟨h.1, by have := h.2.1; show 0 ≤ r.p + k; omega, hq⟩
end Go.Vm

namespace Go.Sx
open Go
/-- A loop that looks for the first element of which p holds. -/
theorem loop_find {R α : Type} {xs : List α} {p : α → Bool} {r : α → Option R} {Z : Option R} {f : Nat → Int → Option R}
    (hs : ∀ m (i : Nat) x, xs[i]? = some x → f (m + 1) (i : Int) = bif p x then r x else f m ((i + 1 : Nat) : Int)) (he : ∀ m, f (m + 1) (xs.length : Int) = Z) {m : Nat} (hm : xs.length < m) :
    f m 0 = match xs.find? p with | some x => r x | none => Z := by
  have key : ∀ k i m, i + k = xs.length → k < m → f m (i : Int) = match (xs.drop i).find? p with | some x => r x | none => Z := by
    intro k
    induction k with
    | zero =>
      intro i m hi hm
      obtain ⟨m, rfl⟩ : ∃ q, m = q + 1 := ⟨m - 1, by omega⟩
      rw [show i = xs.length by omega, he, List.drop_length]
      rfl
    | succ k ih =>
      intro i m hi hm
      obtain ⟨m, rfl⟩ : ∃ q, m = q + 1 := ⟨m - 1, by omega⟩
      have hlt : i < xs.length := by omega
      rw [hs m i xs[i] (List.getElem?_eq_getElem hlt), List.drop_eq_getElem_cons hlt, List.find?_cons]
      cases p xs[i] with
      | true => rfl
      | false => exact ih (i + 1) m (by omega) (by omega)
  have := key xs.length 0 m (by omega) hm
  simpa using this
end Go.Sx
namespace Go.Vm
open Go Go.Sx
set_option linter.unusedSimpArgs false
set_option linter.unusedVariables false

end Go.Vm

namespace Go.Vm
open Go Go.Sx
set_option linter.unusedSimpArgs false
set_option linter.unusedVariables false

/-- A text of n lines at most, none of them long. -/
def LB (n : Nat) (t : List Str) : Prop := t.length ≤ n ∧ ∀ s ∈ t, s.length ≤ 100
theorem LB.fit {n : Nat} {t : List Str} (h : LB n t) (hn : n ≤ 1000000) : Bk.fit t := ⟨by have := h.1; unfold maxi; omega, fun s hs => by have := h.2 s hs; show s.length ≤ maxi; unfold maxi; omega⟩
theorem sumB_bound {α : Type} {f : α → Nat} {c : Nat} : ∀ {t : List α}, (∀ s ∈ t, f s ≤ c) → sumB f t ≤ c * t.length
  | [], _ => by simp [sumB]
  | x :: t, h => by
    have h1 := h x (by simp)
    have h2 := sumB_bound (t := t) (fun s hs => h s (by simp [hs]))
    simp only [sumB, List.length_cons, Nat.mul_add, Nat.mul_one]
    omega
theorem LB.bulk {n : Nat} {t : List Str} (h : LB n t) : Bk.bulk t ≤ 101 * n := by
  have h1 : sumB Bk.bulk t ≤ 100 * t.length := sumB_bound (f := fun s : Str => s.length) (c := 100) (fun s hs => h.2 s hs)
  have := h.1
  rw [bulkL]
  omega
section
variable {r : l30Rd} {p : Int}
end
end Go.Vm

namespace Go.Vm
open Go Go.Sx Go.Proofs
set_option linter.unusedSimpArgs false
set_option linter.unusedVariables false

theorem less_iff (a b : Str) : Op.bytesLess a b = decide (a < b) := bytesLess_eq a b
theorem slt_irrefl (a : Str) : ¬ a < a := List.lt_irrefl a
theorem slt_trans {a b c : Str} : a < b → b < c → a < c := List.lt_trans
theorem slt_of_le_ne {a b : Str} (h : a ≤ b) (hn : a ≠ b) : a < b := by
  rcases Decidable.em (a < b) with h1 | h1
  · exact h1
  · exact absurd (List.le_antisymm h (List.not_lt.1 h1)) hn
theorem not_slt {a b : Str} : ¬ a < b ↔ b ≤ a := List.not_lt
def wordB (c : UInt8) : Bool := (decide (97 ≤ (c.toNat : Int)) && decide ((c.toNat : Int) ≤ 122)) || (decide (48 ≤ (c.toNat : Int)) && decide ((c.toNat : Int) ≤ 57))
def nameB (s : Str) : Bool := (decide (1 ≤ (s.length : Int)) && decide ((s.length : Int) ≤ 6)) && s.all wordB
theorem wordByte_eq (c : UInt8) : impl_wordByte c = some (wordB c) := by
  unfold impl_wordByte wordB
  simp only [jn]
  cases decide (97 ≤ (c.toNat : Int)) <;> cases decide ((c.toNat : Int) ≤ 122) <;> cases decide (48 ≤ (c.toNat : Int)) <;> cases decide ((c.toNat : Int) ≤ 57) <;> rfl
theorem within_eq (a b c : Int) : impl_within a b c = some (decide (b ≤ a) && decide (a ≤ c)) := by
  unfold impl_within
  simp only [jn]
  cases decide (b ≤ a) <;> rfl
theorem l1In_eq (a b c : Int) : spec_l1In a b c = some (decide (b ≤ a) && decide (a ≤ c)) := by
  unfold spec_l1In
  simp only [jn]
  cases decide (b ≤ a) <;> rfl
theorem nameOk_eq {s : Str} (h : s.length ≤ maxi) : impl_nameOk s = some (nameB s) := by
  unfold impl_nameOk nameB
  simp only [jn, fuel0, within_eq, Option.bind_some]
  cases (decide (1 ≤ (s.length : Int)) && decide ((s.length : Int) ≤ 6))
  case false => rfl
  simp only [Bool.not_true, cond_false, Bool.true_and]
  rw [loop_list (α := UInt8) (xs := s) (p := wordB) (r0 := some false) (Z := some true) (f := fun m i => impl_nameOk_l1 s (fun _ _ => some true) m false i) (fun m i x hx => by
    simp only [impl_nameOk_l1, jn, lt_of hx, chM_of hx, cond_true, Option.bind_some, w64_ix (ix_of hx) h, wordByte_eq]
    cases wordB x <;> rfl) (fun m => by simp only [impl_nameOk_l1, end_of, cond_false]) (by omega)]
  cases s.all wordB <;> rfl
theorem lt_not (a b : Int) : decide (a < b) = !decide (b ≤ a) := by
  by_cases h : a < b
  · rw [decide_eq_true h, decide_eq_false (by omega)]; rfl
  · rw [decide_eq_false h, decide_eq_true (by omega)]; rfl
theorem l4Name_eq {s : Str} (h : s.length ≤ maxi) : spec_l4Name s = some (nameB s) := by
  unfold spec_l4Name nameB
  simp only [jn, fuel0, l1In_eq, Option.bind_some]
  rw [loop_list (α := UInt8) (xs := s) (p := wordB) (r0 := some false) (Z := some (decide (1 ≤ (s.length : Int)) && decide ((s.length : Int) ≤ 6))) (f := fun m i => spec_l4Name_l1 s (fun _ _ => some (decide (1 ≤ (s.length : Int)) && decide ((s.length : Int) ≤ 6))) m false i) (fun m i x hx => by
    simp only [spec_l4Name_l1, jn, lt_of hx, chM_of hx, cond_true, Option.bind_some, w64_ix (ix_of hx) h, lt_not, wordB]
    cases decide (97 ≤ (x.toNat : Int)) <;> cases decide ((x.toNat : Int) ≤ 122) <;> cases decide (48 ≤ (x.toNat : Int)) <;> cases decide ((x.toNat : Int) ≤ 57) <;> rfl) (fun m => by simp only [spec_l4Name_l1, end_of, cond_false]) (by omega)]
  cases s.all wordB <;> cases (decide (1 ≤ (s.length : Int)) && decide ((s.length : Int) ≤ 6)) <;> rfl
end Go.Vm

namespace Go.Vm
open Go Go.Sx
set_option linter.unusedSimpArgs false
set_option linter.unusedVariables false

def RB (n : Nat) (v : Review) : Prop := v.Branch.length ≤ 4 ∧ v.Into.length ≤ 4 ∧ v.By.length ≤ 4 ∧ LB n v.Yes
theorem RB.fit {n : Nat} {v : Review} (h : RB n v) (hn : n ≤ 1000) : Bk.fit v :=
  ⟨by have := h.1; show v.Branch.length ≤ maxi; unfold maxi; omega, by have := h.2.1; show v.Into.length ≤ maxi; unfold maxi; omega, by have := h.2.2.1; show v.By.length ≤ maxi; unfold maxi; omega, h.2.2.2.fit (by omega)⟩
end Go.Vm

namespace Go.Vm
open Go Go.Sx
set_option linter.unusedSimpArgs false
set_option linter.unusedVariables false

/-- What is behind w, cut at each c. -/
def curS (c : UInt8) : Str → Str → List Str
  | w, [] => [w]
  | w, x :: r => bif x == c then w :: curS c [] r else curS c (w ++ [x]) r
/-- The same, cut n times at most. -/
def curN (c : UInt8) : Nat → Str → Str → List Str
  | _, w, [] => [w]
  | 0, w, x :: r => [w ++ x :: r]
  | n + 1, w, x :: r => bif x == c then w :: curN c n [] r else curN c (n + 1) (w ++ [x]) r
theorem curS_len (c : UInt8) : ∀ (r w : Str), 1 ≤ (curS c w r).length
  | [], w => by simp [curS]
  | x :: r, w => by
    unfold curS
    cases x == c
    · exact curS_len c r _
    · simp
theorem curN_zero (c : UInt8) (w r : Str) : curN c 0 w r = [w ++ r] := by
  cases r <;> simp [curN]
theorem curN_same (c : UInt8) : ∀ (r : Str) (n : Nat) (w : Str), (curS c w r).length ≤ n + 1 → curN c n w r = curS c w r
  | [], n, w, h => by cases n <;> simp [curN, curS]
  | x :: r, 0, w, h => by
    unfold curS at h ⊢
    cases hx : x == c with
    | true =>
      rw [hx, cond_true] at h
      have := curS_len c r []
      rw [List.length_cons] at h
      omega
    | false =>
      rw [hx, cond_false] at h
      have ih := curN_same c r 0 (w ++ [x]) h
      rw [cond_false, ← ih, curN_zero, curN_zero]
      simp
  | x :: r, n + 1, w, h => by
    unfold curS at h ⊢
    unfold curN
    cases hx : x == c with
    | true =>
      rw [hx, cond_true, List.length_cons] at h
      rw [cond_true, cond_true, curN_same c r n [] (by omega)]
    | false =>
      rw [hx, cond_false] at h
      rw [cond_false, cond_false, curN_same c r (n + 1) _ h]
theorem curN_full (c : UInt8) : ∀ (r : Str) (n : Nat) (w : Str), n + 1 ≤ (curS c w r).length → (curN c n w r).length = n + 1
  | [], n, w, h => by
    simp [curS] at h
    subst h
    simp [curN]
  | x :: r, 0, w, h => by simp [curN]
  | x :: r, n + 1, w, h => by
    unfold curS at h
    unfold curN
    cases hx : x == c with
    | true =>
      rw [hx, cond_true, List.length_cons] at h
      rw [cond_true, List.length_cons, curN_full c r n [] (by omega)]
    | false =>
      rw [hx, cond_false] at h
      rw [cond_false, curN_full c r (n + 1) _ h]
theorem index_not {c : UInt8} {w : Str} (h : c ∉ w) : Lib.index w [c] = -1 := Lib.index_none fun j hj => by
  cases ho : Lib.occAt w [c] j with
  | false => rfl
  | true => exact absurd (List.mem_of_getElem? (Lib.occAt_head rfl ho)) h
theorem index_at {c : UInt8} {w r : Str} (h : c ∉ w) : Lib.index (w ++ c :: r) [c] = ((w.length : Nat) : Int) := Lib.index_first (by simp) (by simp [Lib.occAt, List.isPrefixOf]) fun j hj => by
  cases ho : Lib.occAt (w ++ c :: r) [c] j with
  | false => rfl
  | true =>
    have := Lib.occAt_head rfl ho
    rw [List.getElem?_append_left hj] at this
    exact absurd (List.mem_of_getElem? this) h
theorem split_cur (c : UInt8) : ∀ (r w : Str), c ∉ w → Lib.split (w ++ r) [c] = curS c w r
  | [], w, h => by
    unfold Lib.split curS
    rw [List.append_nil, Lib.count_miss (index_not h)]
    rfl
  | x :: r, w, h => by
    unfold curS
    cases hx : x == c with
    | true =>
      have e : x = c := by simpa using hx
      subst e
      have hi := index_at (r := r) h
      rw [cond_true]
      have ih := split_cur x r [] (by simp)
      unfold Lib.split at ih ⊢
      have hd : (w ++ x :: r).drop (w.length + 1) = r := by
        rw [show w ++ x :: r = (w ++ [x]) ++ r by simp, List.drop_left' (by simp)]
      have hc : Lib.count (w ++ x :: r) [x] = Lib.count r [x] + 1 := by
        rw [Lib.count_hit (by simp) hi]
        show 1 + Lib.count ((w ++ x :: r).drop (w.length + 1)) [x] = _
        rw [hd]
        omega
      rw [hc]
      unfold Lib.splitK
      rw [if_neg (by rw [hi]; simp), hi]
      have e1 : (w ++ x :: r).take (((w.length : Nat) : Int).toNat + 0) = w := by simp
      have e2 : (w ++ x :: r).drop (((w.length : Nat) : Int).toNat + [x].length) = r := hd
      rw [e1, e2]
      simp only [List.nil_append] at ih
      rw [ih]
    | false =>
      have hne : x ≠ c := by simpa using hx
      rw [cond_false, show w ++ x :: r = (w ++ [x]) ++ r by simp]
      exact split_cur c r (w ++ [x]) (by
        rw [List.mem_append, List.mem_singleton]
        rintro (h1 | h1)
        · exact h h1
        · exact hne h1.symm)
theorem split_eq (c : UInt8) (s : Str) : Lib.split s [c] = curS c [] s := split_cur c s [] (by simp)

theorem byte_eq (u c : UInt8) : (((UInt8.toNat u : Nat) : Int) == ((UInt8.toNat c : Nat) : Int)) = (u == c) := by
  have : ∀ b c : Bool, (b = true ↔ c = true) → b = c := by decide
  apply this
  rw [beq_iff_eq, beq_iff_eq, ← UInt8.toNat_inj]
  omega
theorem cut_l1 {s : Str} {c : UInt8} {most : Nat} (hs : s.length ≤ 1048576) (hm : most ≤ 1000) : ∀ (n : Nat) (out : List Str) (from_ i m : Nat), i + n = s.length → n < m → from_ ≤ i → out.length ≤ most →
    spec_l1Cut_l1 s c (most : Int) (fun y3 y6 y7 => (slM s y6 (s.length : Int)).bind fun q38 => (apM y3 [q38]).bind fun q43 => some q43) m out (from_ : Int) (i : Int) = some (out ++ curN c (most - out.length) ((s.take i).drop from_) (s.drop i))
  | n, out, f, i, 0, _, hm, _, _ => by omega
  | n, out, f, i, m + 1, hi, hn, hf, ho => by
    have hdone : (slM s (f : Int) (s.length : Int)).bind (fun q38 => (apM out [q38]).bind fun q43 => some q43) = some (out ++ [s.drop f]) := by
      rw [slM_drop (by omega), Option.bind_some, ap1 (by omega), Option.bind_some]
    have hw : (s.take i).drop f ++ s.drop i = s.drop f := by
      rw [← List.drop_append_of_le_length (by simp; omega), List.take_append_drop]
    simp only [spec_l1Cut_l1, jn]
    by_cases h1 : (i : Int) < (s.length : Int)
    case neg =>
      rw [decide_eq_false h1, cond_false, cond_false, hdone]
      have : s.drop i = [] := List.drop_eq_nil_of_le (by omega)
      rw [this] at hw ⊢
      rw [List.append_nil] at hw
      rw [hw]
      cases most - out.length <;> simp [curN]
    rw [decide_eq_true h1, cond_true]
    have hlt : i < s.length := by omega
    have hx : s[i]? = some s[i] := List.getElem?_eq_getElem hlt
    by_cases h2 : (out.length : Int) < (most : Int)
    case neg =>
      rw [decide_eq_false h2, cond_false, hdone]
      have : most - out.length = 0 := by omega
      rw [this, curN_zero, hw]
    obtain ⟨n, rfl⟩ : ∃ k, n = k + 1 := ⟨n - 1, by omega⟩
    obtain ⟨k, hk⟩ : ∃ k, most - out.length = k + 1 := ⟨most - out.length - 1, by omega⟩
    rw [decide_eq_true h2, cond_true, chM_of hx, Option.bind_some, byte_eq, hk, List.drop_eq_getElem_cons hlt]
    unfold curN
    cases hb : s[i] == c with
    | true =>
      rw [cond_true, cond_true, slM_of (by omega) (by omega) (by omega), Option.bind_some, ap1 (by omega), Option.bind_some, w64_ix hlt (by unfold maxi; omega), cut_l1 hs hm n _ (i + 1) (i + 1) m (by omega) (by omega) (by omega) (by simp; omega)]
      have e1 : most - (out ++ [((s.take ((i : Nat) : Int).toNat)).drop ((f : Nat) : Int).toNat]).length = k := by simp; omega
      have e2 : (s.take (i + 1)).drop (i + 1) = [] := List.drop_eq_nil_of_le (by simp; omega)
      rw [e1, e2]
      simp
    | false =>
      rw [cond_false, cond_false, w64_ix hlt (by unfold maxi; omega), cut_l1 hs hm n _ f (i + 1) m (by omega) (by omega) (by omega) ho, hk]
      have e2 : (s.take (i + 1)).drop f = (s.take i).drop f ++ [s[i]] := by
        rw [List.take_add_one, hx]
        rw [List.drop_append_of_le_length (by simp; omega)]
        rfl
      rw [e2]
theorem l1Cut_eq {s : Str} {c : UInt8} {most : Nat} (hs : s.length ≤ 1048576) (hm : most ≤ 1000) : spec_l1Cut s c (most : Int) = some (curN c most [] s) := by
  unfold spec_l1Cut
  simp only [jn]
  have := cut_l1 (c := c) (most := most) hs hm s.length [] 0 0 (s.length + 1) (by omega) (by omega) (Nat.le_refl _) (by simp)
  simpa using this

def pathB (s : Str) : Bool := decide ((curS 47 [] s).length ≤ 3) && (curS 47 [] s).all nameB
theorem curS_fit (c : UInt8) : ∀ (r w : Str), ∀ p ∈ curS c w r, p.length ≤ w.length + r.length
  | [], w, p, h => by simp [curS] at h; rw [h]; omega
  | x :: r, w, p, h => by
    unfold curS at h
    cases hx : x == c with
    | true =>
      rw [hx, cond_true] at h
      rcases List.mem_cons.1 h with e | e
      · rw [e]; omega
      · have := curS_fit c r [] p e
        simp at this ⊢
        omega
    | false =>
      rw [hx, cond_false] at h
      have := curS_fit c r (w ++ [x]) p h
      simp at this ⊢
      omega
theorem curS_long (c : UInt8) : ∀ (r w : Str), (curS c w r).length ≤ r.length + 1
  | [], w => by simp [curS]
  | x :: r, w => by
    unfold curS
    cases x == c
    · have := curS_long c r (w ++ [x]); simp at this ⊢; omega
    · have := curS_long c r []; simp at this ⊢; omega
theorem PathOk_eq {s : Str} (h : s.length ≤ 1048576) : impl_PathOk s = some (pathB s) := by
  unfold impl_PathOk strings_Split pathB
  rw [if_pos ⟨by omega, by simp⟩, Option.bind_some, split_eq]
  have hl := curS_long 47 s []
  by_cases h3 : (3 : Int) < ((curS 47 [] s).length : Int)
  · rw [decide_eq_true h3, cond_true, decide_eq_false (by omega)]; rfl
  rw [decide_eq_false h3, cond_false, decide_eq_true (by omega), Bool.true_and]
  simp only [jn, fuel0]
  rw [loop_list (α := Str) (xs := curS 47 [] s) (p := nameB) (r0 := some false) (Z := some true) (f := fun m i => impl_PathOk_l1 (curS 47 [] s) (fun _ _ => some true) m false i) (fun m i x hx => by
    have hf := curS_fit 47 s [] x (List.mem_of_getElem? hx)
    simp only [impl_PathOk_l1, lt_of hx, gi_of hx, cond_true, Option.bind_some, w64_ix (ix_of hx) (show (curS 47 [] s).length ≤ maxi by unfold maxi; omega), nameOk_eq (show x.length ≤ maxi by unfold maxi; simp at hf; omega)]
    cases nameB x <;> rfl) (fun m => by simp only [impl_PathOk_l1, end_of, cond_false]) (by omega)]
  cases (curS 47 [] s).all nameB <;> rfl
theorem curN_fit (c : UInt8) : ∀ (r : Str) (n : Nat) (w : Str), ∀ p ∈ curN c n w r, p.length ≤ w.length + r.length
  | [], n, w, p, h => by cases n <;> simp [curN] at h <;> rw [h] <;> omega
  | x :: r, 0, w, p, h => by simp [curN] at h; rw [h]; simp
  | x :: r, n + 1, w, p, h => by
    unfold curN at h
    cases hx : x == c with
    | true =>
      rw [hx, cond_true] at h
      rcases List.mem_cons.1 h with e | e
      · rw [e]; omega
      · have := curN_fit c r n [] p e
        simp at this ⊢
        omega
    | false =>
      rw [hx, cond_false] at h
      have := curN_fit c r (n + 1) (w ++ [x]) p h
      simp at this ⊢
      omega
theorem l4Path_eq {s : Str} (h : s.length ≤ 1048576) : spec_l4Path s = some (pathB s) := by
  unfold spec_l4Path pathB
  have e47 : (UInt8.ofNatLT 47 (by decide) : UInt8) = 47 := by decide
  have hc := l1Cut_eq (c := UInt8.ofNatLT 47 (by decide)) (most := 3) h (by omega)
  rw [show (3 : Int) = ((3 : Nat) : Int) from rfl, hc, Option.bind_some, e47]
  simp only [jn, fuel0]
  have hlen : (curN 47 3 [] s).length ≤ maxi := by
    rcases Nat.lt_or_ge (curS 47 [] s).length 4 with h1 | h1
    · rw [curN_same 47 s 3 [] (by omega)]; unfold maxi; omega
    · rw [curN_full 47 s 3 [] h1]; unfold maxi; omega
  rw [loop_list (α := Str) (xs := curN 47 3 [] s) (p := nameB) (r0 := some false) (Z := some (decide (((curN 47 3 [] s).length : Int) ≤ ((3 : Nat) : Int)))) (f := fun m i => spec_l4Path_l1 (curN 47 3 [] s) (fun _ _ => some (decide (((curN 47 3 [] s).length : Int) ≤ ((3 : Nat) : Int)))) m false i) (fun m i x hx => by
    have hf := curN_fit 47 s 3 [] x (List.mem_of_getElem? hx)
    simp only [spec_l4Path_l1, lt_of hx, gi_of hx, cond_true, Option.bind_some, w64_ix (ix_of hx) hlen, l4Name_eq (show x.length ≤ maxi by unfold maxi; simp at hf; omega)]
    cases nameB x <;> rfl) (fun m => by simp only [spec_l4Path_l1, end_of, cond_false]) (by omega)]
  rcases Nat.lt_or_ge (curS 47 [] s).length 4 with h1 | h1
  · rw [curN_same 47 s 3 [] (by omega), decide_eq_true (show ((curS 47 [] s).length : Int) ≤ ((3 : Nat) : Int) by omega), decide_eq_true (show (curS 47 [] s).length ≤ 3 by omega)]
    cases (curS 47 [] s).all nameB <;> rfl
  · rw [curN_full 47 s 3 [] h1, decide_eq_false (show ¬ (curS 47 [] s).length ≤ 3 by omega)]
    cases (curN 47 3 [] s).all nameB <;> rfl
end Go.Vm

namespace Go.Vm
open Go Go.Sx
set_option linter.unusedSimpArgs false
set_option linter.unusedVariables false

theorem le_less2 (a b : Str) : (Op.bytesLess a b || a == b) = !Op.bytesLess b a := by
  rw [less_iff, less_iff]
  by_cases h : b < a
  · have h1 : ¬ a < b := fun h2 => slt_irrefl a (slt_trans h2 h)
    have h2 : ¬ a = b := fun e => by rw [e] at h; exact slt_irrefl b h
    simp [h, h1, h2]
  · by_cases e : a = b
    · simp [h, e]
    · have := slt_of_le_ne (not_slt.1 h) e
      simp [h, this]
/-- Owners whose texts are no longer than a law's arguments. -/
def OB (xs : List Owner) : Prop := xs.length ≤ 1048576 ∧ ∀ x ∈ xs, x.Path.length ≤ 1048576 ∧ x.Who.length ≤ 1048576
theorem OB.of {xs : List Owner} (h : Bk.bulk xs ≤ 1048576) : OB xs := ⟨bulk_len h, fun x hx => by
  have h1 : Bk.bulk x ≤ 1048576 := bulk_mem h hx
  have h2 : Bk.bulk x = x.Path.length + x.Who.length := rfl
  omega⟩
theorem OB.at_ {xs : List Owner} (h : OB xs) {i : Nat} {x : Owner} (hx : xs[i]? = some x) : x.Path.length ≤ 1048576 ∧ x.Who.length ≤ 1048576 := h.2 x (List.mem_of_getElem? hx)
/-- It is below. -/
def belowB (d p : Str) : Bool := (d ++ [47]).isPrefixOf p
theorem PathIn_eq {d p : Str} (hd : d.length ≤ 1048576) (hp : p.length ≤ 1048576) (h1 : pathB d = true) (h2 : pathB p = true) : impl_PathIn d p = some (belowB d p) := by
  unfold impl_PathIn strings_HasPrefix belowB
  have hs : saM d ([47] : Str) = some (d ++ [47]) := by
    unfold saM
    rw [if_pos]
    simp only [List.length_cons, List.length_nil, lim]
    omega
  simp only [jn, PathOk_eq hd, PathOk_eq hp, h1, h2, Option.bind_some, cond_true, hs, Lib.hasPrefix]
theorem prefix_snoc {c : UInt8} : ∀ {d p : Str}, (d ++ [c]).isPrefixOf p = (p.take d.length == d && p[d.length]? == some c)
  | [], [] => by simp
  | [], x :: p => by
    by_cases e : c = x
    · subst e; simp [List.isPrefixOf]
    · have e1 : (c == x) = false := beq_false_of_ne e
      have e2 : ((some x : Option UInt8) == some c) = false := beq_false_of_ne (fun h => e (Option.some.inj h).symm)
      simp only [List.nil_append, List.isPrefixOf, e1, List.length_nil, List.take_zero, List.getElem?_cons_zero, e2, Bool.false_and, Bool.and_false]
  | y :: d, [] => by simp [List.isPrefixOf]
  | y :: d, x :: p => by
    have ih := prefix_snoc (c := c) (d := d) (p := p)
    simp only [List.cons_append, List.isPrefixOf, List.length_cons, List.take_succ_cons, List.getElem?_cons_succ, ih]
    by_cases e : y = x
    · subst e
      simp
    · have e1 : (y == x) = false := beq_false_of_ne e
      have e2 : (x == y) = false := beq_false_of_ne (fun h => e h.symm)
      simp [e1, e2]
theorem l4In_eq {d p : Str} (hp : p.length ≤ 1048576) : spec_l4In d p = some (belowB d p) := by
  unfold spec_l4In belowB
  simp only [jn]
  rw [prefix_snoc]
  by_cases hl : (d.length : Int) < (p.length : Int)
  · have hlt : d.length < p.length := by omega
    have hx : p[d.length]? = some p[d.length] := List.getElem?_eq_getElem hlt
    rw [decide_eq_true hl, cond_true, slM_take (by omega), Option.bind_some, hx]
    cases p.take d.length == d with
    | false => rfl
    | true =>
      rw [cond_true, chM_of hx, Option.bind_some, Bool.true_and]
      congr 1
      have := (show ∀ u : UInt8, (((UInt8.toNat u : Nat) : Int) == (47 : Int)) = (some u == some (47 : UInt8)) from fun u => by
        have hb := byte_eq u 47
        rw [show (((UInt8.toNat (47 : UInt8) : Nat) : Int)) = 47 from rfl] at hb
        rw [hb]
        simp)
      exact this _
  · rw [decide_eq_false hl, cond_false, List.getElem?_eq_none (by omega)]
    simp
end Go.Vm

namespace Go.Vm
open Go Go.Sx
set_option linter.unusedSimpArgs false
set_option linter.unusedVariables false

structure OpFit (o : Op) : Prop where
  fit : Bk.fit o
  path : o.Path.length ≤ 1048576
  to : o.To.length ≤ 1048576
  text : Bk.bulk o.Text ≤ 1048576
theorem OpFit.of {o : Op} (h : Bk.fit o) (hb : Bk.bulk o ≤ 1048576) : OpFit o := by
  have e : Bk.bulk o = Bk.bulk o.Kind + (Bk.bulk o.Branch + (Bk.bulk o.Who + (Bk.bulk o.Path + (Bk.bulk o.To + (Bk.bulk o.At + Bk.bulk o.Text))))) := rfl
  have e1 : Bk.bulk o.Path = o.Path.length := rfl
  have e2 : Bk.bulk o.To = o.To.length := rfl
  exact ⟨h, by omega, by omega, by omega⟩
end Go.Vm

namespace Go.Vm
open Go Go.Sx
set_option linter.unusedSimpArgs false
set_option linter.unusedVariables false

theorem bool_ext : ∀ {b c : Bool}, (b = true ↔ c = true) → b = c := by decide
theorem prev_ix {i n : Nat} (hi : i < n) (hn : n ≤ maxi) (h0 : (0 : Int) < (i : Int)) : w64 ((i : Int) - 1) = ((i - 1 : Nat) : Int) := by
  rw [w64_id (by omega) (by unfold maxi at hn; omega)]; omega
/-- Files whose parts are no longer than a law's arguments. -/
structure FB (f : File) : Prop where
  path : f.Path.length ≤ 1048576
  len : f.Text.length ≤ 1048576
  text : Bk.fit f.Text
def TB (t : List File) : Prop := t.length ≤ 1048576 ∧ ∀ f ∈ t, FB f
theorem TB.at_ {t : List File} (h : TB t) {i : Nat} {f : File} (hf : t[i]? = some f) : FB f := h.2 f (List.mem_of_getElem? hf)
theorem TB.maxi {t : List File} (h : TB t) : t.length ≤ maxi := to_maxi h.1
theorem TB.nil : TB [] := ⟨by simp, fun f hf => by simp at hf⟩
def noFile : File := ⟨[], []⟩
theorem getF_of {t : List File} {i : Nat} {f : File} (h : t[i]? = some f) : t.getD i noFile = f := by simp [List.getD, h]
theorem prevF_at {t : List File} {i : Nat} {f : File} (h : t[i]? = some f) (hl : t.length ≤ maxi) (h0 : (0 : Int) < (i : Int)) : ∃ y, gi t (w64 ((i : Int) - 1)) = some y ∧ t.getD (i - 1) noFile = y := by
  have hi := ix_of h
  have hx : t[i - 1]? = some t[i - 1] := List.getElem?_eq_getElem (by omega)
  exact ⟨_, by rw [prev_ix hi hl h0]; exact gi_of hx, getF_of hx⟩
def fileB (t : List File) (i : Nat) : Bool := pathB (t.getD i noFile).Path && (textB (t.getD i noFile).Text && (bif decide (0 < (i : Int)) then Op.bytesLess (t.getD (i - 1) noFile).Path (t.getD i noFile).Path else true))
def sTree (t : List File) (i : Nat) : Bool := fileB t i && t.all fun f => !belowB (t.getD i noFile).Path f.Path
def iTree (t : List File) (i : Nat) : Bool := fileB t i && (t.take i).all fun f => !(pathB f.Path && (pathB (t.getD i noFile).Path && belowB f.Path (t.getD i noFile).Path))
/-- It is a tree. -/
def treeB (t : List File) : Bool := decide ((t.length : Int) ≤ 8) && allN (sTree t) 0 t.length
theorem lt_more (d : Str) (x : UInt8) (r : Str) : d < d ++ x :: r := by
  induction d with
  | nil => exact List.nil_lt_cons _ _
  | cons a d ih => exact List.cons_lt_cons_self.2 ih
theorem below_lt {d p : Str} (h : belowB d p = true) : d < p := by
  unfold belowB at h
  obtain ⟨t, rfl⟩ := List.isPrefixOf_iff_prefix.1 h
  rw [List.append_assoc]
  exact lt_more d 47 t
theorem files_asc {t : List File} {n : Nat} (h : ∀ i, i < n → fileB t i = true) {i j : Nat} (hij : i < j) (hj : j < n) : (t.getD i noFile).Path < (t.getD j noFile).Path := by
  induction j with
  | zero => omega
  | succ j ih =>
    have h1 := h (j + 1) hj
    unfold fileB at h1
    rw [decide_eq_true (by omega), cond_true, Nat.add_sub_cancel] at h1
    simp only [Bool.and_eq_true, less_iff, decide_eq_true_eq] at h1
    rcases Nat.lt_or_ge i j with h2 | h2
    · exact slt_trans (ih h2 (by omega)) h1.2.2
    · have : i = j := by omega
      subst this
      exact h1.2.2
theorem tree_sides (t : List File) : allN (iTree t) 0 t.length = allN (sTree t) 0 t.length := by
  apply bool_ext
  rw [allN_iff, allN_iff]
  constructor
  · intro h
    have hf : ∀ i, i < t.length → fileB t i = true := fun i hi => by
      have := h i (Nat.zero_le _) (by omega)
      unfold iTree at this
      simp only [Bool.and_eq_true] at this
      exact this.1
    intro i _ hi
    have hi' : i < t.length := by omega
    unfold sTree
    rw [hf i hi', Bool.true_and, List.all_eq_true]
    intro f hm
    obtain ⟨k, hk⟩ := List.mem_iff_getElem?.1 hm
    have hkl := ix_of hk
    cases hb : belowB (t.getD i noFile).Path f.Path with
    | false => rfl
    | true =>
      exfalso
      have hlt := below_lt hb
      rcases Nat.lt_trichotomy i k with h1 | h1 | h1
      · have := h k (Nat.zero_le _) (by omega)
        unfold iTree at this
        simp only [Bool.and_eq_true, List.all_eq_true] at this
        have h2 := this.2 t[i] (List.mem_of_getElem? (i := i) (by rw [List.getElem?_take_of_lt h1]; exact List.getElem?_eq_getElem hi'))
        have p1 := hf i hi'
        have p2 := hf k hkl
        unfold fileB at p1 p2
        simp only [Bool.and_eq_true] at p1 p2
        rw [getF_of hk] at h2 p2
        rw [getF_of (List.getElem?_eq_getElem hi')] at hb p1
        rw [p1.1, p2.1, hb] at h2
        simp at h2
      · subst h1
        rw [getF_of hk] at hlt
        exact slt_irrefl _ hlt
      · have := files_asc hf h1 hi'
        rw [getF_of hk] at this
        exact slt_irrefl _ (slt_trans hlt this)
  · intro h i _ hi
    have hi' : i < t.length := by omega
    have h1 := h i (Nat.zero_le _) hi
    unfold sTree at h1
    simp only [Bool.and_eq_true] at h1
    unfold iTree
    rw [h1.1, Bool.true_and, List.all_eq_true]
    intro f hm
    obtain ⟨k, hk⟩ := List.mem_iff_getElem?.1 hm
    obtain ⟨hk', hki⟩ := show t[k]? = some f ∧ k < i from by
      rw [List.getElem?_take] at hk
      split at hk
      · exact ⟨hk, by assumption⟩
      · cases hk
    have h2 := h k (Nat.zero_le _) (by omega)
    unfold sTree at h2
    simp only [Bool.and_eq_true, List.all_eq_true] at h2
    have h3 := h2.2 t[i] (List.getElem_mem hi')
    rw [getF_of hk'] at h3
    rw [getF_of (List.getElem?_eq_getElem hi')]
    have h4 : belowB f.Path t[i].Path = false := by simpa using h3
    rw [h4]
    simp
theorem l4Ok_eq {t : List File} (h : TB t) : spec_l4Ok t = some (treeB t) := by
  have hm := h.maxi
  unfold spec_l4Ok treeB
  simp only [jn, fuel0]
  rw [loop_all (n := t.length) (g := sTree t) (r0 := some false) (Z := some (decide ((t.length : Int) ≤ 8))) (f := fun m i => spec_l4Ok_l1 t (fun _ _ => some (decide ((t.length : Int) ≤ 8))) m false i) (fun m i hi => by
    have hx : t[i]? = some t[i] := List.getElem?_eq_getElem hi
    have fx := h.at_ hx
    simp only [spec_l4Ok_l1, jn, lt_of hx, gi_of hx, cond_true, Option.bind_some, w64_ix hi hm, l4Path_eq fx.path, l1Ok_eq fx.text]
    unfold sTree fileB
    rw [getF_of hx]
    have hin : ∀ K : Bool → Int → Option Bool, spec_l4Ok_l2 t (i : Int) K (t.length + 1) false 0 = bif t.all (fun f => !belowB t[i].Path f.Path) then K false (t.length : Int) else some false := fun K => by
      rw [loop_list (α := File) (xs := t) (p := fun f => !belowB t[i].Path f.Path) (r0 := some false) (Z := K false (t.length : Int)) (f := fun m k => spec_l4Ok_l2 t (i : Int) K m false k) (fun m k f hf => by
        simp only [spec_l4Ok_l2, lt_of hf, gi_of hf, gi_of hx, cond_true, Option.bind_some, w64_ix (ix_of hf) hm, l4In_eq (h.at_ hf).path]
        cases belowB t[i].Path f.Path <;> rfl) (fun m => by simp only [spec_l4Ok_l2, end_of, cond_false]) (by omega)]
    cases pathB t[i].Path
    · rfl
    cases textB t[i].Text
    · rfl
    simp only [Bool.not_true, cond_false, Bool.true_and]
    by_cases h0 : (0 : Int) < (i : Int)
    · obtain ⟨y, hy, ey⟩ := prevF_at hx hm h0
      rw [hy, ey, decide_eq_true h0]
      simp only [Option.bind_some, le_less2, cond_true]
      cases Op.bytesLess y.Path t[i].Path
      · rfl
      · simp only [Bool.not_true, cond_false, Bool.true_and, fuel0, hin]
    · rw [decide_eq_false h0]
      simp only [cond_false, Bool.true_and, fuel0, hin]) (fun m => by simp only [spec_l4Ok_l1, end_of, cond_false]) _ (by omega)]
  cases decide ((t.length : Int) ≤ 8) <;> cases allN (sTree t) 0 t.length <;> rfl
theorem PathIn_any {d p : Str} (hd : d.length ≤ 1048576) (hp : p.length ≤ 1048576) : impl_PathIn d p = some (pathB d && (pathB p && belowB d p)) := by
  cases h1 : pathB d with
  | false => unfold impl_PathIn; simp only [jn, PathOk_eq hd, h1, Option.bind_some, cond_false, Bool.false_and]
  | true =>
    cases h2 : pathB p with
    | false => unfold impl_PathIn; simp only [jn, PathOk_eq hd, PathOk_eq hp, h1, h2, Option.bind_some, cond_false, cond_true, Bool.false_and, Bool.and_false]
    | true => rw [PathIn_eq hd hp h1 h2]; rfl
theorem TreeOk_eq {t : List File} (h : TB t) : impl_TreeOk t = some (treeB t) := by
  have hm := h.maxi
  unfold impl_TreeOk treeB
  by_cases h8 : (8 : Int) < (t.length : Int)
  · rw [decide_eq_true h8, decide_eq_false (by omega)]; rfl
  rw [decide_eq_false h8, decide_eq_true (by omega), cond_false, Bool.true_and, ← tree_sides]
  simp only [jn, fuel0]
  rw [loop_all (n := t.length) (g := iTree t) (r0 := some false) (Z := some true) (f := fun m i => impl_TreeOk_l1 t (fun _ _ => some true) m false i) (fun m i hi => by
    have hx : t[i]? = some t[i] := List.getElem?_eq_getElem hi
    have fx := h.at_ hx
    simp only [impl_TreeOk_l1, jn, lt_of hx, gi_of hx, cond_true, Option.bind_some, w64_ix hi hm, PathOk_eq fx.path, TextOk_eq fx.text, slM_take (Nat.le_of_lt hi), fuel0]
    unfold iTree fileB
    rw [getF_of hx]
    have hin : ∀ K : Bool → Int → Option Bool, impl_TreeOk_l2 t[i] (t.take i) K ((t.take i).length + 1) false 0 = bif (t.take i).all (fun f => !(pathB f.Path && (pathB t[i].Path && belowB f.Path t[i].Path))) then K false ((t.take i).length : Int) else some false := fun K => by
      rw [loop_list (α := File) (xs := t.take i) (p := fun f => !(pathB f.Path && (pathB t[i].Path && belowB f.Path t[i].Path))) (r0 := some false) (Z := K false ((t.take i).length : Int)) (f := fun m k => impl_TreeOk_l2 t[i] (t.take i) K m false k) (fun m k f hf => by
        have hf2 : FB f := h.2 f (List.mem_of_mem_take (List.mem_of_getElem? hf))
        simp only [impl_TreeOk_l2, lt_of hf, gi_of hf, cond_true, Option.bind_some, w64_ix (ix_of hf) (show (t.take i).length ≤ maxi by simp; omega), PathIn_any hf2.path fx.path]
        cases (pathB f.Path && (pathB t[i].Path && belowB f.Path t[i].Path)) <;> rfl) (fun m => by simp only [impl_TreeOk_l2, end_of, cond_false]) (by omega)]
    cases textB t[i].Text
    · cases pathB t[i].Path <;> rfl
    cases hp : pathB t[i].Path
    · rfl
    simp only [Bool.not_true, cond_false, Bool.true_and]
    by_cases h0 : (0 : Int) < (i : Int)
    · obtain ⟨y, hy, ey⟩ := prevF_at hx hm h0
      rw [hy, ey, decide_eq_true h0]
      simp only [Option.bind_some, cond_true]
      cases Op.bytesLess y.Path t[i].Path
      · rfl
      · simp only [Bool.not_true, cond_false, Bool.true_and, fuel0, hin, hp]
    · rw [decide_eq_false h0]
      simp only [cond_false, Bool.true_and, fuel0, hin, hp]) (fun m => by simp only [impl_TreeOk_l1, end_of, cond_false]) _ (by omega)]
  cases allN (iTree t) 0 t.length <;> rfl
end Go.Vm

namespace Go.Vm
open Go Go.Sx
set_option linter.unusedSimpArgs false
set_option linter.unusedVariables false

structure CB (c : Commit) : Prop where
  par : c.Parents.length ≤ 1048576
  who : c.Who.length ≤ 1048576
  tree : TB c.Tree
structure RpB (r : Repo) : Prop where
  coms : r.Commits.length ≤ 1048576
  com : ∀ c ∈ r.Commits, CB c
  heads : r.Heads.length ≤ 1048576
  head : ∀ h ∈ r.Heads, h.Name.length ≤ 1048576
theorem RpB.cat {r : Repo} (h : RpB r) {i : Nat} {c : Commit} (hc : r.Commits[i]? = some c) : CB c := h.com c (List.mem_of_getElem? hc)
theorem RpB.hat {r : Repo} (h : RpB r) {i : Nat} {c : Head} (hc : r.Heads[i]? = some c) : c.Name.length ≤ 1048576 := h.head c (List.mem_of_getElem? hc)
def noHead : Head := ⟨[], 0⟩
theorem getH_of {t : List Head} {i : Nat} {f : Head} (h : t[i]? = some f) : t.getD i noHead = f := by simp [List.getD, h]
theorem prevH_at {t : List Head} {i : Nat} {f : Head} (h : t[i]? = some f) (hl : t.length ≤ maxi) (h0 : (0 : Int) < (i : Int)) : ∃ y, gi t (w64 ((i : Int) - 1)) = some y ∧ t.getD (i - 1) noHead = y := by
  have hi := ix_of h
  have hx : t[i - 1]? = some t[i - 1] := List.getElem?_eq_getElem (by omega)
  exact ⟨_, by rw [prev_ix hi hl h0]; exact gi_of hx, getH_of hx⟩
def upB (i p : Int) : Bool := decide (0 ≤ p) && decide (p ≤ i - 1)
def twoB (ps : List Int) : Bool := match ps with
  | [p, q] => !(p == q)
  | _ => true
def comB (i : Int) (c : Commit) : Bool := c.Parents.all (upB i) && (decide ((c.Parents.length : Int) ≤ 2) && (twoB c.Parents && (nameB c.Who && treeB c.Tree)))
def noCommit : Commit := ⟨[], [], []⟩
def comsB (cs : List Commit) : Bool := allN (fun i => comB i (cs.getD i noCommit)) 0 cs.length
def headB (n : Nat) (hs : List Head) (i : Nat) : Bool := nameB (hs.getD i noHead).Name && (upB n (hs.getD i noHead).At && (bif decide (0 < (i : Int)) then Op.bytesLess (hs.getD (i - 1) noHead).Name (hs.getD i noHead).Name else true))
def headsB (n : Nat) (hs : List Head) : Bool := allN (headB n hs) 0 hs.length && decide ((hs.length : Int) ≤ 5)
/-- It is a repository. -/
def repoB (r : Repo) : Bool := decide ((r.Commits.length : Int) ≤ 16) && (comsB r.Commits && headsB r.Commits.length r.Heads)
theorem getC_of {t : List Commit} {i : Nat} {f : Commit} (h : t[i]? = some f) : t.getD i noCommit = f := by simp [List.getD, h]
theorem low_ix {n : Nat} (hn : n ≤ maxi) : w64 ((n : Int) - 1) = (n : Int) - 1 := w64_id (by omega) (by unfold maxi at hn; omega)
/-- The parents as the reference looks at them. -/
def parS (i : Int) (ps : List Int) (k : Nat) : Bool := upB i (ps.getD k 0) && !(decide (0 < (k : Int)) && (ps.getD k 0 == ps.getD 0 0))
theorem getI_of {t : List Int} {i : Nat} {f : Int} (h : t[i]? = some f) : t.getD i 0 = f := by simp [List.getD, h]
theorem par_sides (i : Int) (ps : List Int) (h2 : (ps.length : Int) ≤ 2) : allN (parS i ps) 0 ps.length = (ps.all (upB i) && twoB ps) := by
  match ps, h2 with
  | [], _ => rfl
  | [p], _ => simp [allN, parS, twoB]
  | [p, q], _ =>
    simp only [allN, parS, twoB, List.length_cons, List.length_nil, List.all_cons, List.all_nil]
    have e : (q == p) = (p == q) := by
      apply bool_ext; rw [beq_iff_eq, beq_iff_eq]; exact eq_comm
    simp [e]
    cases upB i p <;> cases upB i q <;> simp
  | p :: q :: s :: l, h => simp at h; omega
theorem l7_l2 {i : Nat} {c : Commit} (hi : i ≤ 1048576) (hc : CB c) (K : Bool → Int → Option Bool) : spec_l7Ok_l2 (i : Int) c K (c.Parents.length + 1) false 0 = bif allN (parS i c.Parents) 0 c.Parents.length then K false (c.Parents.length : Int) else some false := by
  have hm := to_maxi hc.par
  rw [loop_all (n := c.Parents.length) (g := parS i c.Parents) (r0 := some false) (Z := K false (c.Parents.length : Int)) (f := fun m k => spec_l7Ok_l2 (i : Int) c K m false k) (fun m k hk => by
    have hx : c.Parents[k]? = some c.Parents[k] := List.getElem?_eq_getElem hk
    have h00 : c.Parents[0]? = some c.Parents[0] := List.getElem?_eq_getElem (by omega)
    have hg0 : gi c.Parents 0 = some c.Parents[0] := gi_of (i := 0) h00
    simp only [spec_l7Ok_l2, jn, lt_of hx, gi_of hx, hg0, cond_true, Option.bind_some, w64_ix hk hm, l1In_eq, low_ix (show i ≤ maxi by unfold maxi; omega)]
    unfold parS
    rw [getI_of hx, getI_of h00, show (decide ((0 : Int) ≤ c.Parents[k]) && decide (c.Parents[k] ≤ (i : Int) - 1)) = upB i c.Parents[k] from rfl]
    cases upB (i : Int) c.Parents[k]
    · rfl
    · cases decide ((0 : Int) < (k : Int))
      · rfl
      · cases (c.Parents[k] == c.Parents[0]) <;> rfl) (fun m => by simp only [spec_l7Ok_l2, end_of, cond_false]) _ (by omega)]
theorem l7_l3 {r : Repo} (h : RpB r) : spec_l7Ok_l3 r (fun _ _ => jn (fun (y128 : Bool) => some y128) fun K130 => bif decide (((r.Commits.length : Int) : Int) ≤ (16 : Int)) then (K130 (decide (((r.Heads.length : Int) : Int) ≤ (5 : Int)))) else (K130 false)) (r.Heads.length + 1) false 0 = some (decide ((r.Commits.length : Int) ≤ 16) && headsB r.Commits.length r.Heads) := by
  have hm := to_maxi h.heads
  rw [loop_all (n := r.Heads.length) (g := headB r.Commits.length r.Heads) (r0 := some false) (Z := some (decide ((r.Commits.length : Int) ≤ 16) && decide ((r.Heads.length : Int) ≤ 5))) (f := fun m k => spec_l7Ok_l3 r _ m false k) (fun m k hk => by
    have hx : r.Heads[k]? = some r.Heads[k] := List.getElem?_eq_getElem hk
    simp only [spec_l7Ok_l3, jn, lt_of hx, gi_of hx, cond_true, Option.bind_some, w64_ix hk hm, l1In_eq, low_ix (to_maxi h.coms), l4Name_eq (to_maxi (h.hat hx))]
    unfold headB
    rw [getH_of hx, show (decide ((0 : Int) ≤ r.Heads[k].At) && decide (r.Heads[k].At ≤ (r.Commits.length : Int) - 1)) = upB r.Commits.length r.Heads[k].At from rfl]
    cases nameB r.Heads[k].Name
    · rfl
    cases upB r.Commits.length r.Heads[k].At
    · rfl
    by_cases h0 : (0 : Int) < (k : Int)
    · obtain ⟨y, hy, ey⟩ := prevH_at hx hm h0
      rw [hy, ey, decide_eq_true h0]
      simp only [Option.bind_some, le_less2]
      cases Op.bytesLess y.Name r.Heads[k].Name <;> rfl
    · rw [decide_eq_false h0]; rfl) (fun m => by
      simp only [spec_l7Ok_l3, end_of, cond_false, jn]
      cases decide ((r.Commits.length : Int) ≤ 16) <;> rfl) _ (by omega)]
  unfold headsB
  cases allN (headB r.Commits.length r.Heads) 0 r.Heads.length <;> cases decide ((r.Commits.length : Int) ≤ 16) <;> rfl
theorem l7Ok_eq {r : Repo} (h : RpB r) : spec_l7Ok r = some (repoB r) := by
  have hm := to_maxi h.coms
  unfold spec_l7Ok repoB comsB
  simp only [jn, fuel0]
  have h3 := l7_l3 h
  simp only [jn] at h3
  rw [loop_all (n := r.Commits.length) (g := fun i => comB i (r.Commits.getD i noCommit)) (r0 := some false) (Z := some (decide ((r.Commits.length : Int) ≤ 16) && headsB r.Commits.length r.Heads)) (f := fun m i => spec_l7Ok_l1 r _ m false i) (fun m i hi => by
    have hx : r.Commits[i]? = some r.Commits[i] := List.getElem?_eq_getElem hi
    have hc := h.cat hx
    have hco := h.coms
    simp only [spec_l7Ok_l1, jn, lt_of hx, gi_of hx, cond_true, Option.bind_some, w64_ix hi hm, fuel0, l7_l2 (show i ≤ 1048576 by omega) hc, getC_of hx]
    unfold comB
    by_cases h2 : (2 : Int) < (r.Commits[i].Parents.length : Int)
    · rw [decide_eq_true h2, decide_eq_false (show ¬ (r.Commits[i].Parents.length : Int) ≤ 2 by omega)]
      simp only [cond_true, Bool.false_and, Bool.and_false, cond_false]
      cases allN (parS i r.Commits[i].Parents) 0 r.Commits[i].Parents.length <;> rfl
    · rw [decide_eq_false h2, decide_eq_true (show (r.Commits[i].Parents.length : Int) ≤ 2 by omega), par_sides _ _ (by omega)]
      simp only [cond_false, Bool.true_and, l4Name_eq (to_maxi hc.who), l4Ok_eq hc.tree, Option.bind_some]
      cases r.Commits[i].Parents.all (upB i) <;> cases twoB r.Commits[i].Parents <;> cases nameB r.Commits[i].Who <;> cases treeB r.Commits[i].Tree <;> rfl) (fun m => by
      simp only [spec_l7Ok_l1, end_of, cond_false, jn, fuel0, h3]) _ (by omega)]
  cases allN (fun i => comB i (r.Commits.getD i noCommit)) 0 r.Commits.length <;> cases decide ((r.Commits.length : Int) ≤ 16) <;> rfl
theorem headsOk_eq {r : Repo} (h : RpB r) {hs : List Head} (hl : hs.length ≤ 1048576) (hn : ∀ h ∈ hs, h.Name.length ≤ 1048576) : impl_headsOk r hs = some (headsB r.Commits.length hs) := by
  have hm := to_maxi hl
  unfold impl_headsOk headsB
  by_cases h5 : (5 : Int) < (hs.length : Int)
  · rw [decide_eq_true h5, decide_eq_false (show ¬ (hs.length : Int) ≤ 5 by omega), Bool.and_false]; rfl
  rw [decide_eq_false h5, decide_eq_true (show (hs.length : Int) ≤ 5 by omega), cond_false, Bool.and_true]
  simp only [jn, fuel0]
  rw [loop_all (n := hs.length) (g := headB r.Commits.length hs) (r0 := some false) (Z := some true) (f := fun m k => impl_headsOk_l1 r hs (fun _ _ => some true) m false k) (fun m k hk => by
    have hx : hs[k]? = some hs[k] := List.getElem?_eq_getElem hk
    simp only [impl_headsOk_l1, impl_Repo_exists, jn, lt_of hx, gi_of hx, cond_true, Option.bind_some, w64_ix hk hm, within_eq, low_ix (to_maxi h.coms), nameOk_eq (to_maxi (hn _ (List.mem_of_getElem? hx)))]
    unfold headB
    rw [getH_of hx, show (decide ((0 : Int) ≤ hs[k].At) && decide (hs[k].At ≤ (r.Commits.length : Int) - 1)) = upB r.Commits.length hs[k].At from rfl]
    cases nameB hs[k].Name
    · rfl
    cases upB r.Commits.length hs[k].At
    · rfl
    by_cases h0 : (0 : Int) < (k : Int)
    · obtain ⟨y, hy, ey⟩ := prevH_at hx hm h0
      rw [hy, ey, decide_eq_true h0]
      simp only [Option.bind_some]
      cases Op.bytesLess y.Name hs[k].Name <;> rfl
    · rw [decide_eq_false h0]; rfl) (fun m => by simp only [impl_headsOk_l1, end_of, cond_false]) _ (by omega)]
  cases allN (headB r.Commits.length hs) 0 hs.length <;> rfl
theorem RepoOk_eq {r : Repo} (h : RpB r) : impl_RepoOk r = some (repoB r) := by
  have hm := to_maxi h.coms
  unfold impl_RepoOk repoB comsB
  by_cases h16 : (16 : Int) < (r.Commits.length : Int)
  · rw [decide_eq_true h16, decide_eq_false (by omega)]; rfl
  rw [decide_eq_false h16, decide_eq_true (by omega), cond_false, Bool.true_and]
  simp only [jn, fuel0]
  rw [loop_all (n := r.Commits.length) (g := fun i => comB i (r.Commits.getD i noCommit)) (r0 := some false) (Z := some (headsB r.Commits.length r.Heads)) (f := fun m i => impl_RepoOk_l1 r _ m false i) (fun m i hi => by
    have hx : r.Commits[i]? = some r.Commits[i] := List.getElem?_eq_getElem hi
    have hc := h.cat hx
    have hco := h.coms
    have hpm := to_maxi hc.par
    have hin : ∀ K : Bool → Int → Option Bool, impl_RepoOk_l2 (i : Int) r.Commits[i] K (r.Commits[i].Parents.length + 1) false 0 = bif r.Commits[i].Parents.all (upB i) then K false (r.Commits[i].Parents.length : Int) else some false := fun K => by
      rw [loop_list (α := Int) (xs := r.Commits[i].Parents) (p := upB i) (r0 := some false) (Z := K false (r.Commits[i].Parents.length : Int)) (f := fun m k => impl_RepoOk_l2 (i : Int) r.Commits[i] K m false k) (fun m k p hp => by
        simp only [impl_RepoOk_l2, lt_of hp, gi_of hp, cond_true, Option.bind_some, w64_ix (ix_of hp) hpm, within_eq, low_ix (show i ≤ maxi by unfold maxi; omega)]
        rw [show (decide ((0 : Int) ≤ p) && decide (p ≤ (i : Int) - 1)) = upB i p from rfl]
        cases upB i p <;> rfl) (fun m => by simp only [impl_RepoOk_l2, end_of, cond_false]) (by omega)]
    simp only [impl_RepoOk_l1, jn, lt_of hx, gi_of hx, cond_true, Option.bind_some, w64_ix hi hm, fuel0, hin, getC_of hx, nameOk_eq (to_maxi hc.who), TreeOk_eq hc.tree]
    unfold comB
    match hps : r.Commits[i].Parents with
    | [] => cases nameB r.Commits[i].Who <;> cases treeB r.Commits[i].Tree <;> rfl
    | [p] =>
      simp only [List.length_cons, List.length_nil, List.all_cons, List.all_nil, twoB]
      cases upB i p <;> cases nameB r.Commits[i].Who <;> cases treeB r.Commits[i].Tree <;> rfl
    | [p, q] =>
      simp only [List.length_cons, List.length_nil, List.all_cons, List.all_nil, twoB, gi, List.getElem?_cons_zero, List.getElem?_cons_succ, Int.toNat_zero, Int.toNat_one]
      cases upB i p <;> cases upB i q <;> cases hpq : p == q <;> cases nameB r.Commits[i].Who <;> cases treeB r.Commits[i].Tree <;> simp [hpq] <;> rfl
    | p :: q :: s :: l =>
      rw [decide_eq_true (by simp only [List.length_cons]; omega), decide_eq_false (show ¬ (((p :: q :: s :: l).length : Nat) : Int) ≤ 2 by simp only [List.length_cons]; omega)]
      simp only [cond_true, Bool.false_and, Bool.and_false, cond_false]) (fun m => by
      simp only [impl_RepoOk_l1, end_of, cond_false, jn, headsOk_eq h h.heads h.head, Option.bind_some]) _ (by omega)]
  cases allN (fun i => comB i (r.Commits.getD i noCommit)) 0 r.Commits.length <;> rfl
theorem exists_eq {r : Repo} (h : RpB r) (a : Int) : impl_Repo_exists r a = some (upB r.Commits.length a) := by
  unfold impl_Repo_exists
  rw [low_ix (to_maxi h.coms), within_eq, Option.bind_some]
  rfl
theorem upB_iff {n : Nat} {a : Int} : upB n a = true ↔ 0 ≤ a ∧ a ≤ (n : Int) - 1 := by
  unfold upB
  simp only [Bool.and_eq_true, decide_eq_true_eq]
theorem are_eq {r : Repo} (h : RpB r) {l : List Int} (hl : l.length ≤ 100000) : impl_Repo_are r l = some (repoB r && l.all (upB r.Commits.length)) := by
  unfold impl_Repo_are
  rw [RepoOk_eq h, Option.bind_some]
  cases repoB r with
  | false => rfl
  | true =>
    rw [Bool.not_true, cond_false, Bool.true_and]
    simp only [jn, fuel0]
    rw [loop_list (α := Int) (xs := l) (p := upB r.Commits.length) (r0 := some false) (Z := some true) (f := fun m k => impl_Repo_are_l1 r l (fun _ _ => some true) m false k) (fun m k p hp => by
      simp only [impl_Repo_are_l1, lt_of hp, gi_of hp, cond_true, Option.bind_some, w64_ix (ix_of hp) (show l.length ≤ maxi by unfold maxi; omega), exists_eq h]
      cases upB r.Commits.length p <;> rfl) (fun m => by simp only [impl_Repo_are_l1, end_of, cond_false]) (by omega)]
    cases l.all (upB r.Commits.length) <;> rfl
end Go.Vm

namespace Go.Vm
open Go Go.Sx
set_option linter.unusedSimpArgs false
set_option linter.unusedVariables false

theorem l4Copy_eq {t : List File} (h : TB t) : spec_l4Copy t = some t := by
  have hm := h.maxi
  have hl := h.1
  unfold spec_l4Copy
  simp only [jn, fuel0]
  rw [loop_filter (xs := t) (p := fun _ => true) (g := fun f : File => f) (Z := fun acc => some acc) (f := fun m acc i => spec_l4Copy_l1 t _ m acc i) (fun m i x acc hx ha => by
    have hi := ix_of hx
    simp only [spec_l4Copy_l1, lt_of hx, gi_of hx, cond_true, Option.bind_some, w64_ix hi hm, apN (h.at_ hx).len, ap1 (show acc.length ≤ 1048576 by omega)]) (fun m acc => by simp only [spec_l4Copy_l1, end_of, cond_false]) (by omega)]
  simp
theorem copyTree_eq {t : List File} (h : TB t) : impl_copyTree t = some t := by
  have hm := h.maxi
  have hl := h.1
  unfold impl_copyTree
  simp only [jn, fuel0]
  rw [loop_filter (xs := t) (p := fun _ => true) (g := fun f : File => f) (Z := fun acc => some acc) (f := fun m acc i => impl_copyTree_l1 t _ m acc i) (fun m i x acc hx ha => by
    have hi := ix_of hx
    simp only [impl_copyTree_l1, lt_of hx, gi_of hx, cond_true, Option.bind_some, w64_ix hi hm, copyText_eq (h.at_ hx).len, ap1 (show acc.length ≤ 1048576 by omega)]) (fun m acc => by simp only [impl_copyTree_l1, end_of, cond_false]) (by omega)]
  simp
theorem l7CopyCommit_eq {c : Commit} (h : CB c) : spec_l7CopyCommit c = some c := by
  unfold spec_l7CopyCommit
  rw [apN h.par, Option.bind_some, l4Copy_eq h.tree, Option.bind_some]
theorem l7Copy_eq {r : Repo} (h : RpB r) : spec_l7Copy r = some r := by
  have hm := to_maxi h.coms
  have hl := h.coms
  unfold spec_l7Copy
  simp only [jn, fuel0, apN h.heads, Option.bind_some]
  rw [loop_filter (xs := r.Commits) (p := fun _ => true) (g := fun f : Commit => f) (Z := fun acc => some (Repo.mk acc r.Heads)) (f := fun m acc i => spec_l7Copy_l1 r _ m i acc r.Heads) (fun m i x acc hx ha => by
    have hi := ix_of hx
    simp only [spec_l7Copy_l1, lt_of hx, gi_of hx, cond_true, Option.bind_some, w64_ix hi hm, l7CopyCommit_eq (h.cat hx), ap1 (show acc.length ≤ 1048576 by omega)]) (fun m acc => by simp only [spec_l7Copy_l1, end_of, cond_false]) (by omega)]
  rw [show ((r.Commits.filter fun _ => true).map fun f : Commit => f) = r.Commits by simp]

def putH (n : Str) (a : Int) : Bool → List Head → List Head
  | put, [] => bif put then [] else [⟨n, a⟩]
  | put, h :: hs => (bif !put && !Op.bytesLess h.Name n then [⟨n, a⟩] else []) ++ ((bif h.Name != n then [h] else []) ++ putH n a (put || !Op.bytesLess h.Name n) hs)
theorem putH_len (n : Str) (a : Int) : ∀ (hs : List Head) (put : Bool), (putH n a put hs).length + (bif put then 1 else 0) ≤ hs.length + 1
  | [], put => by cases put <;> simp [putH]
  | h :: hs, put => by
    have ih := putH_len n a hs (put || !Op.bytesLess h.Name n)
    unfold putH
    cases put <;> cases hb : Op.bytesLess h.Name n <;> cases hn : (h.Name != n) <;> simp [hb] at ih ⊢ <;> omega
theorem putH_mem (n : Str) (a : Int) : ∀ (hs : List Head) (put : Bool) (x : Head), x ∈ putH n a put hs → x ∈ hs ∨ x = ⟨n, a⟩
  | [], put, x, h => by cases put <;> simp [putH] at h; exact .inr h
  | h :: hs, put, x, hx => by
    unfold putH at hx
    rcases List.mem_append.1 hx with h1 | h1
    · cases hc : (!put && !Op.bytesLess h.Name n) with
      | true => rw [hc] at h1; simp at h1; exact .inr h1
      | false => rw [hc] at h1; simp at h1
    · rcases List.mem_append.1 h1 with h2 | h2
      · cases hc : (h.Name != n) with
        | true => rw [hc] at h2; simp at h2; exact .inl (by rw [h2]; simp)
        | false => rw [hc] at h2; simp at h2
      · rcases putH_mem n a hs _ x h2 with h3 | h3
        · exact .inl (List.mem_cons_of_mem _ h3)
        · exact .inr h3
theorem l7Head_l1 {r : Repo} (h : RpB r) (hs : r.Heads.length ≤ 100000) (n : Str) (a : Int) (cs : List Commit) : ∀ (k i m : Nat) (put : Bool) (out : List Head), i + k = r.Heads.length → k < m → out.length ≤ 2 * i →
    spec_l7Head_l1 r n a (fun y14 _ y16 y19 => bif (!y14) then ((apM y19 [Vm.Head.mk n a]).bind fun q160 => some (Vm.Repo.mk y16 q160)) else some (Vm.Repo.mk y16 y19)) m put (i : Int) cs out = some ⟨cs, out ++ putH n a put (r.Heads.drop i)⟩
  | k, i, 0, put, out, _, hm, _ => by omega
  | 0, i, m + 1, put, out, hi, _, ho => by
    obtain rfl : i = r.Heads.length := by omega
    simp only [spec_l7Head_l1, end_of, cond_false, List.drop_length]
    cases put
    · simp only [Bool.not_false, cond_true, ap1 (show out.length ≤ 1048576 by omega), Option.bind_some, putH, cond_false]
    · simp [putH]
  | k + 1, i, m + 1, put, out, hi, hm, ho => by
    have hlt : i < r.Heads.length := by omega
    have hx : r.Heads[i]? = some r.Heads[i] := List.getElem?_eq_getElem hlt
    have hd : r.Heads.drop i = r.Heads[i] :: r.Heads.drop (i + 1) := List.drop_eq_getElem_cons hlt
    have hw := w64_ix hlt (to_maxi h.heads)
    have ih := fun put out ho => l7Head_l1 h hs n a cs k (i + 1) m put out (by omega) (by omega) ho
    simp only [spec_l7Head_l1, jn, lt_of hx, gi_of hx, cond_true, Option.bind_some, hw]
    rw [hd]
    unfold putH
    have e1 := ap1 (x := Vm.Head.mk n a) (show out.length ≤ 1048576 by omega)
    have e2 := ap1 (x := r.Heads[i]) (show out.length ≤ 1048576 by omega)
    have e3 : apM (out ++ [Vm.Head.mk n a]) [r.Heads[i]] = some (out ++ ([Vm.Head.mk n a] ++ [r.Heads[i]])) := by rw [ap1 (show (out ++ [Vm.Head.mk n a]).length ≤ 1048576 by simp; omega), List.append_assoc]
    have l1 : (out ++ [r.Heads[i]]).length ≤ 2 * (i + 1) := by simp; omega
    have l2 : (out ++ [Vm.Head.mk n a]).length ≤ 2 * (i + 1) := by simp; omega
    have l3 : (out ++ ([Vm.Head.mk n a] ++ [r.Heads[i]])).length ≤ 2 * (i + 1) := by simp; omega
    have l0 : out.length ≤ 2 * (i + 1) := by omega
    cases put <;> cases Op.bytesLess r.Heads[i].Name n <;> cases (r.Heads[i].Name != n) <;>
      simp only [Bool.not_true, Bool.not_false, cond_true, cond_false, e1, e2, e3, Option.bind_some, Bool.and_true, Bool.and_false, Bool.or_true, Bool.or_false, Bool.true_and, Bool.false_and, Bool.true_or, Bool.false_or, ih _ _ l0, ih _ _ l1, ih _ _ l2, ih _ _ l3, List.append_assoc, List.nil_append]
def headR (r : Repo) (n : Str) (a : Int) : Repo := ⟨r.Commits, putH n a false r.Heads⟩
theorem l7Head_eq {r : Repo} (h : RpB r) (hs : r.Heads.length ≤ 100000) (n : Str) (a : Int) : spec_l7Head r n a = some (headR r n a) := by
  unfold spec_l7Head headR
  simp only [jn, fuel0]
  have := l7Head_l1 h hs n a r.Commits r.Heads.length 0 (r.Heads.length + 1) false [] (by omega) (by omega) (by simp)
  simpa using this
theorem RpB.headR {r : Repo} (h : RpB r) (hs : r.Heads.length ≤ 100000) {n : Str} (hn : n.length ≤ 1048576) (a : Int) : RpB (headR r n a) :=
  ⟨h.coms, h.com, by have := putH_len n a r.Heads false; simp at this; show (putH n a false r.Heads).length ≤ _; omega, fun x hx => by
    rcases putH_mem n a r.Heads false x hx with h1 | h1
    · exact h.head x h1
    · rw [h1]; exact hn⟩
theorem repo_small {r : Repo} (h : repoB r = true) : r.Commits.length ≤ 16 ∧ r.Heads.length ≤ 5 := by
  unfold repoB headsB at h
  simp only [Bool.and_eq_true, decide_eq_true_eq] at h
  omega
def zeroR : Repo := ⟨[], []⟩
theorem tree_small {t : List File} (h : treeB t = true) : t.length ≤ 8 := by
  unfold treeB at h
  simp only [Bool.and_eq_true, decide_eq_true_eq] at h
  omega
end Go.Vm

namespace Go.Vm
open Go Go.Sx
set_option linter.unusedSimpArgs false
set_option linter.unusedVariables false

theorem repo_com {r : Repo} (h : repoB r = true) {i : Nat} (hi : i < r.Commits.length) : comB i (r.Commits.getD i noCommit) = true := by
  unfold repoB comsB at h
  simp only [Bool.and_eq_true] at h
  exact allN_iff.1 h.2.1 i (Nat.zero_le _) (by omega)
def parsAt (r : Repo) (i : Nat) : List Int := (r.Commits.getD i noCommit).Parents
theorem head_at {r : Repo} (h : repoB r = true) {x : Head} (hx : x ∈ r.Heads) : 0 ≤ x.At ∧ x.At ≤ (r.Commits.length : Int) - 1 ∧ nameB x.Name = true := by
  obtain ⟨i, hi⟩ := List.mem_iff_getElem?.1 hx
  unfold repoB headsB at h
  simp only [Bool.and_eq_true] at h
  have := allN_iff.1 h.2.2.1 i (Nat.zero_le _) (by have := ix_of hi; omega)
  unfold headB upB at this
  rw [getH_of hi] at this
  simp only [Bool.and_eq_true, decide_eq_true_eq] at this
  exact ⟨this.2.1.1, this.2.1.2, this.1⟩
theorem gi_getI {l : List Int} {i : Nat} (h : i < l.length) : gi l (i : Int) = some (l.getD i 0) := by
  rw [getI_of (List.getElem?_eq_getElem h)]
  exact gi_of (List.getElem?_eq_getElem h)
end Go.Vm

namespace Go.Vm
open Go Go.Sx
set_option linter.unusedSimpArgs false
set_option linter.unusedVariables false

def textsB (t : List File) : Prop := ∀ f ∈ t, textB f.Text = true
theorem tree_texts {t : List File} (h : treeB t = true) : textsB t := by
  intro f hf
  obtain ⟨i, hi⟩ := List.mem_iff_getElem?.1 hf
  unfold treeB at h
  simp only [Bool.and_eq_true] at h
  have := allN_iff.1 h.2 i (Nat.zero_le _) (by have := ix_of hi; omega)
  unfold sTree fileB at this
  rw [getF_of hi] at this
  simp only [Bool.and_eq_true] at this
  exact this.1.2.1
end Go.Vm

namespace Go.Vm
open Go Go.Sx
set_option linter.unusedSimpArgs false
set_option linter.unusedVariables false

/-- A repository that is well made. -/
structure Good (r : Repo) : Prop where
  rb : RpB r
  ok : repoB r = true
  hd : r.Commits ≠ [] → r.Heads ≠ []
def treeAt (r : Repo) (i : Nat) : List File := (r.Commits.getD i noCommit).Tree
theorem Good.tree {r : Repo} (h : Good r) {i : Nat} (hi : i < r.Commits.length) : TB (treeAt r i) ∧ treeB (treeAt r i) = true ∧ textsB (treeAt r i) ∧ (treeAt r i).length ≤ 8 := by
  have hx : r.Commits[i]? = some r.Commits[i] := List.getElem?_eq_getElem hi
  have h1 : treeB (treeAt r i) = true := by
    have := repo_com h.ok hi
    unfold comB at this
    simp only [Bool.and_eq_true] at this
    exact this.2.2.2.2
  refine ⟨?_, h1, tree_texts h1, tree_small h1⟩
  unfold treeAt
  rw [getC_of hx]
  exact (h.rb.cat hx).tree
theorem putH_ne (n : Str) (a : Int) : ∀ (hs : List Head), putH n a false hs ≠ []
  | [] => by simp [putH]
  | h :: hs => by
    unfold putH
    cases hb : Op.bytesLess h.Name n
    · simp
    · have := putH_ne n a hs
      cases (h.Name != n) <;> simp [this]
def replH (n : Str) (a : Int) (h : Head) : Head := bif h.Name == n then ⟨n, a⟩ else h
theorem putH_true (n : Str) (a : Int) : ∀ (hs : List Head), (∀ h ∈ hs, h.Name ≠ n) → putH n a true hs = hs
  | [], _ => rfl
  | h :: hs, hn => by
    have h1 : (h.Name != n) = true := by simpa using hn h (by simp)
    unfold putH
    rw [h1, Bool.true_or, putH_true n a hs (fun x hx => hn x (List.mem_cons_of_mem _ hx))]
    rfl
theorem putH_there (n : Str) (a : Int) : ∀ (hs : List Head), hs.Pairwise (fun x y => x.Name < y.Name) → (∃ h ∈ hs, h.Name = n) → putH n a false hs = hs.map (replH n a)
  | [], _, h => by obtain ⟨x, hx, _⟩ := h; simp at hx
  | h :: hs, hp, he => by
    obtain ⟨p1, p2⟩ := List.pairwise_cons.1 hp
    unfold putH
    rw [List.map_cons]
    cases hb : Op.bytesLess h.Name n with
    | true =>
      rw [less_iff] at hb
      have hlt : h.Name < n := by simpa using hb
      have hne : h.Name ≠ n := fun e => by rw [e] at hlt; exact slt_irrefl _ hlt
      have h1 : (h.Name != n) = true := by simpa using hne
      have h2 : (h.Name == n) = false := beq_false_of_ne hne
      have ht : ∃ x ∈ hs, x.Name = n := by
        obtain ⟨x, hx, e⟩ := he
        rcases List.mem_cons.1 hx with e2 | e2
        · rw [e2] at e; exact absurd e hne
        · exact ⟨x, e2, e⟩
      rw [h1]
      simp only [Bool.not_true, Bool.and_false, cond_false, cond_true, List.nil_append, Bool.or_false, List.singleton_append]
      rw [putH_there n a hs p2 ht]
      unfold replH
      rw [h2]
      rfl
    | false =>
      rw [less_iff] at hb
      have hge : n ≤ h.Name := not_slt.1 (by simpa using hb)
      cases h2 : h.Name == n with
      | true =>
        have e : h.Name = n := by simpa using h2
        have h1 : (h.Name != n) = false := by rw [bne, h2]; rfl
        have hno : ∀ x ∈ hs, x.Name ≠ n := fun x hx e2 => by
          have := p1 x hx
          rw [e, e2] at this
          exact slt_irrefl _ this
        rw [h1, Bool.not_false, Bool.or_true, putH_true n a hs hno]
        have hm : hs.map (replH n a) = hs := by
          conv => rhs; rw [← List.map_id hs]
          refine List.map_congr_left (fun x hx => ?_)
          unfold replH
          rw [beq_false_of_ne (hno x hx)]
          rfl
        rw [hm]
        unfold replH
        rw [h2]
        rfl
      | false =>
        exfalso
        have hne : n ≠ h.Name := fun e => by rw [e] at h2; simp at h2
        have hlt := slt_of_le_ne hge hne
        obtain ⟨x, hx, e⟩ := he
        rcases List.mem_cons.1 hx with e2 | e2
        · rw [e2] at e; exact hne e.symm
        · have := p1 x e2
          rw [e] at this
          exact slt_irrefl _ (slt_trans hlt this)
theorem heads_asc {r : Repo} (h : repoB r = true) : r.Heads.Pairwise (fun x y => x.Name < y.Name) := by
  unfold repoB headsB at h
  simp only [Bool.and_eq_true] at h
  have hg := allN_iff.1 h.2.2.1
  have step : ∀ i, (hi : i + 1 < r.Heads.length) → (r.Heads[i]'(by omega)).Name < r.Heads[i + 1].Name := fun i hi => by
    have := hg (i + 1) (by omega) (by omega)
    unfold headB at this
    rw [getH_of (List.getElem?_eq_getElem hi), decide_eq_true (by omega), Nat.add_sub_cancel, getH_of (List.getElem?_eq_getElem (show i < r.Heads.length by omega))] at this
    simp only [cond_true, Bool.and_eq_true, less_iff, decide_eq_true_eq] at this
    exact this.2.2
  refine List.pairwise_iff_getElem.2 fun i j hi hj hij => ?_
  induction j with
  | zero => omega
  | succ j ih =>
    rcases Nat.lt_or_ge i j with h1 | h1
    · exact slt_trans (ih (by omega) h1) (step j hj)
    · have : i = j := by omega
      subst this
      exact step i hj
theorem Good.head {r : Repo} (h : Good r) {n : Str} {b : Int} (hn : n.length ≤ 1048576) (ho : repoB (headR r n b) = true) : Good (headR r n b) := by
  obtain ⟨s1, s2⟩ := repo_small h.ok
  exact ⟨h.rb.headR (by omega) hn b, ho, fun _ => putH_ne _ _ _⟩
end Go.Vm

namespace Go.Vm
open Go Go.Sx
set_option linter.unusedSimpArgs false
set_option linter.unusedVariables false

/-- From a commit to one from which it comes. -/
inductive Rc (r : Repo) : Nat → Nat → Prop
  | refl (a : Nat) : Rc r a a
  | step {a b : Nat} {p : Int} : Rc r a b → p ∈ parsAt r b → Rc r a p.toNat
theorem Rc.trans {r : Repo} {a b c : Nat} (h : Rc r a b) (k : Rc r b c) : Rc r a c := by
  induction k with
  | refl => exact h
  | step _ hp ih => exact Rc.step ih hp
theorem Rc.head {r : Repo} {a c : Nat} (h : Rc r a c) : c = a ∨ ∃ p ∈ parsAt r a, Rc r p.toNat c := by
  induction h with
  | refl => exact .inl rfl
  | @step b p hb hp ih =>
    rcases ih with e | ⟨q, hq, hc⟩
    · subst e
      exact .inr ⟨p, hp, Rc.refl _⟩
    · exact .inr ⟨q, hq, Rc.step hc hp⟩
end Go.Vm

namespace Go.Vm
open Go Go.Sx
set_option linter.unusedSimpArgs false
set_option linter.unusedVariables false

theorem TB.of {t : List File} (hf : Bk.fit t) (h : Bk.bulk t ≤ 1048576) : TB t := ⟨bulk_len h, fun f hm => by
  have h1 : Bk.bulk f ≤ 1048576 := bulk_mem h hm
  have h2 : Bk.bulk f = f.Path.length + Bk.bulk f.Text := rfl
  exact ⟨by omega, bulk_len (show Bk.bulk f.Text ≤ 1048576 by omega), (hf.2 f hm).2⟩⟩
theorem RpB.of {r : Repo} (hf : Bk.fit r) (h : Bk.bulk r ≤ 1048576) : RpB r := by
  have h0 : Bk.bulk r = Bk.bulk r.Commits + Bk.bulk r.Heads := rfl
  have hc : Bk.bulk r.Commits ≤ 1048576 := by omega
  have hh : Bk.bulk r.Heads ≤ 1048576 := by omega
  refine ⟨bulk_len hc, fun c hm => ?_, bulk_len hh, fun x hm => ?_⟩
  · have h1 : Bk.bulk c ≤ 1048576 := bulk_mem hc hm
    have h2 : Bk.bulk c = Bk.bulk c.Parents + (c.Who.length + Bk.bulk c.Tree) := rfl
    exact ⟨bulk_len (show Bk.bulk c.Parents ≤ 1048576 by omega), by omega, TB.of (hf.1.2 c hm).2.2 (by omega)⟩
  · have h1 : Bk.bulk x ≤ 1048576 := bulk_mem hh hm
    have h2 : Bk.bulk x = x.Name.length + 0 := rfl
    omega
theorem rOwn_eq {r : Repo} (h : RpB r) : impl_Repo_own r = some r := by
  have hm := to_maxi h.coms
  have hl := h.coms
  unfold impl_Repo_own
  simp only [jn, fuel0, apN h.heads, Option.bind_some]
  rw [loop_filter (xs := r.Commits) (p := fun _ => true) (g := fun f : Commit => f) (Z := fun acc => some (Repo.mk acc r.Heads)) (f := fun m acc i => impl_Repo_own_l1 r _ m i acc r.Heads) (fun m i x acc hx ha => by
    have hi := ix_of hx
    have hc := h.cat hx
    simp only [impl_Repo_own_l1, lt_of hx, gi_of hx, cond_true, Option.bind_some, w64_ix hi hm, apN hc.par, copyTree_eq hc.tree, ap1 (show acc.length ≤ 1048576 by omega)]) (fun m acc => by simp only [impl_Repo_own_l1, end_of, cond_false]) (by omega)]
  rw [show ((r.Commits.filter fun _ => true).map fun f : Commit => f) = r.Commits by simp]

end Go.Vm

namespace Go.Vm
open Go Go.Sx
set_option linter.unusedSimpArgs false
set_option linter.unusedVariables false

theorem putH_split (n : Str) (a : Int) : ∀ (A B : List Head), (∀ h ∈ A, h.Name < n) → (∀ h ∈ B, n < h.Name) → putH n a false (A ++ B) = A ++ [⟨n, a⟩] ++ B
  | [], [], _, _ => rfl
  | [], h :: B, _, hB => by
    have h1 := hB h (by simp)
    have h2 : Op.bytesLess h.Name n = false := by
      rw [less_iff, decide_eq_false_iff_not]
      exact fun e => slt_irrefl _ (slt_trans e h1)
    have h3 : (h.Name != n) = true := by
      rw [bne_iff_ne]
      exact fun e => by rw [e] at h1; exact slt_irrefl _ h1
    show putH n a false (h :: B) = _
    unfold putH
    rw [h2, h3, Bool.not_false, Bool.and_true, Bool.false_or, cond_true, cond_true, putH_true n a B fun x hx e => by
      have := hB x (by simp [hx])
      rw [e] at this
      exact slt_irrefl _ this]
    rfl
  | h :: A, B, hA, hB => by
    have h1 := hA h (by simp)
    have h2 : Op.bytesLess h.Name n = true := by rw [less_iff]; simpa using h1
    have h3 : (h.Name != n) = true := by
      rw [bne_iff_ne]
      exact fun e => by rw [e] at h1; exact slt_irrefl _ h1
    show putH n a false (h :: (A ++ B)) = _
    unfold putH
    rw [h2, h3, Bool.not_true, Bool.and_false, Bool.or_false, cond_false, cond_true, putH_split n a A B (fun x hx => hA x (by simp [hx])) hB]
    rfl
def downH (n : Str) (hs : List Head) : Nat → Nat
  | 0 => 0
  | k + 1 => bif Op.bytesLess n (hs.getD k noHead).Name then downH n hs k else k + 1
theorem ins_l1 {hs : List Head} (hl : hs.length ≤ 1048576) {x : Head} {K : Int → Option (List Head)} : ∀ (k m : Nat), k ≤ hs.length → k < m → impl_insertHead_l1 hs x K m (k : Int) = K (downH x.Name hs k : Int)
  | k, 0, _, hm => by omega
  | 0, m + 1, _, _ => rfl
  | k + 1, m + 1, hk, hm => by
    have hx : hs[k]? = some hs[k] := List.getElem?_eq_getElem (by omega)
    have hw : w64 (((k + 1 : Nat) : Int) - 1) = (k : Int) := by rw [w64_id (by omega) (by omega)]; omega
    simp only [impl_insertHead_l1, jn, hw, gi_of hx, Option.bind_some, le_less2, Bool.not_not]
    rw [decide_eq_true (by omega), cond_true]
    unfold downH
    rw [getH_of hx]
    cases Op.bytesLess x.Name hs[k].Name with
    | true => rw [cond_true, cond_true, ins_l1 hl k m (by omega) (by omega)]
    | false => rfl
theorem downH_spec {n : Str} {hs : List Head} (hp : hs.Pairwise (fun x y => x.Name < y.Name)) (hno : ∀ h ∈ hs, h.Name ≠ n) : ∀ k, k ≤ hs.length → downH n hs k ≤ k ∧ (∀ h ∈ hs.take (downH n hs k), h.Name < n) ∧ ∀ i h, downH n hs k ≤ i → i < k → hs[i]? = some h → n < h.Name
  | 0, _ => ⟨Nat.le_refl _, fun h hh => by simp [downH] at hh, fun i h _ hi _ => by omega⟩
  | k + 1, hk => by
    have hx : hs[k]? = some hs[k] := List.getElem?_eq_getElem (by omega)
    unfold downH
    rw [getH_of hx]
    cases hb : Op.bytesLess n hs[k].Name with
    | true =>
      rw [cond_true]
      obtain ⟨h1, h2, h3⟩ := downH_spec hp hno k (by omega)
      refine ⟨by omega, h2, fun i h hi hik hh => ?_⟩
      rcases Nat.lt_or_ge i k with h4 | h4
      · exact h3 i h hi h4 hh
      · obtain rfl : i = k := by omega
        rw [hx] at hh
        cases hh
        rw [less_iff] at hb
        simpa using hb
    | false =>
      rw [cond_false]
      have hlast : hs[k].Name < n := by
        rw [less_iff] at hb
        exact slt_of_le_ne (not_slt.1 (by simpa using hb)) (hno _ (List.getElem_mem _))
      refine ⟨Nat.le_refl _, fun h hh => ?_, fun i h h1 h2 _ => by omega⟩
      obtain ⟨i, hi⟩ := List.getElem?_of_mem hh
      rw [List.getElem?_take] at hi
      split at hi
      · rename_i hik
        obtain ⟨hlt, rfl⟩ := List.getElem?_eq_some_iff.1 hi
        rcases Nat.lt_or_ge i k with h4 | h4
        · exact slt_trans (List.pairwise_iff_getElem.1 hp i k hlt (by omega) h4) hlast
        · obtain rfl : i = k := by omega
          exact hlast
      · cases hi
theorem insertHead_eq {hs : List Head} (hl : hs.length ≤ 1048576) {n : Str} {a : Int} (hp : hs.Pairwise (fun x y => x.Name < y.Name)) (hno : ∀ h ∈ hs, h.Name ≠ n) : impl_insertHead hs ⟨n, a⟩ = some (putH n a false hs) := by
  obtain ⟨h1, h2, h3⟩ := downH_spec hp hno hs.length (Nat.le_refl _)
  unfold impl_insertHead
  simp only [jn]
  rw [ins_l1 hl hs.length (hs.length + 1) (Nat.le_refl _) (by omega), apN hl, Option.bind_some]
  show (slices_Insert_impl_Head_impl_Head hs (downH n hs hs.length : Int) ⟨n, a⟩).bind _ = _
  unfold slices_Insert_impl_Head_impl_Head
  rw [if_pos ⟨by omega, by omega, by unfold lim; omega⟩, Option.bind_some, Int.toNat_natCast]
  have := putH_split n a (hs.take (downH n hs hs.length)) (hs.drop (downH n hs hs.length)) h2 (fun h hh => by
    obtain ⟨i, hi⟩ := List.getElem?_of_mem hh
    rw [List.getElem?_drop] at hi
    exact h3 _ h (by omega) (List.getElem?_eq_some_iff.1 hi).1 hi)
  rw [List.take_append_drop] at this
  rw [this]
theorem point_eq {r : Repo} (h : RpB r) {n : Str} {a : Int} (hp : r.Heads.Pairwise (fun x y => x.Name < y.Name)) (hno : ∀ x ∈ r.Heads, x.Name ≠ n) : impl_Repo_point r n a = some (headR r n a) := by
  have hm := to_maxi h.heads
  unfold impl_Repo_point
  simp only [jn, fuel0]
  rw [loop_find (p := fun _ : Head => false) (xs := r.Heads) (r := fun _ => none) (Z := some (headR r n a)) (f := fun m k => impl_Repo_point_l1 r n a _ m k [] [] r.Heads) (fun m i x hx => by
    have : (x.Name == n) = false := beq_false_of_ne (hno x (List.mem_of_getElem? hx))
    simp only [impl_Repo_point_l1, lt_of hx, gi_of hx, cond_true, cond_false, Option.bind_some, w64_ix (ix_of hx) hm, this]) (fun m => by
    simp only [impl_Repo_point_l1, end_of, cond_false, insertHead_eq h.heads hp hno, Option.bind_some]
    rfl) (by omega)]
  rw [show r.Heads.find? (fun _ => false) = none by simp]
theorem tried_eq {r y : Repo} (h : RpB r) (hy : RpB y) : impl_Repo_tried r y = some (bif repoB y then (y, true) else (r, false)) := by
  unfold impl_Repo_tried
  rw [show (⟨y.Commits, y.Heads⟩ : Repo) = y from rfl, RepoOk_eq hy, Option.bind_some]
  cases repoB y with
  | true => rfl
  | false => rw [Bool.not_false, cond_true, cond_false, rOwn_eq h]; rfl
theorem putH_bulk (n : Str) (a : Int) : ∀ (hs : List Head) (put : Bool), sumB Bk.bulk (putH n a put hs) + (bif put then n.length else 0) ≤ sumB Bk.bulk hs + n.length
  | [], put => by cases put <;> simp [putH, sumB, Bk.bulk]
  | h :: hs, put => by
    have ih := putH_bulk n a hs (put || !Op.bytesLess h.Name n)
    unfold putH
    cases put <;> cases hb : Op.bytesLess h.Name n <;> cases hn : (h.Name != n) <;> simp [hb, sumB, Bk.bulk] at ih ⊢ <;> omega
end Go.Vm

namespace Go.Vm
open Go Go.Sx
set_option linter.unusedSimpArgs false
set_option linter.unusedVariables false

theorem set_replH {n : Str} {a : Int} : ∀ (hs : List Head) (j : Nat) (x : Head), hs.Pairwise (fun x y => x.Name < y.Name) → hs[j]? = some x → x.Name = n → hs.set j ⟨x.Name, a⟩ = hs.map (replH n a)
  | [], j, x, _, h, _ => by simp at h
  | h :: hs, 0, x, hp, e, hn => by
    obtain rfl : h = x := by simpa using e
    rw [List.set_cons_zero, List.map_cons]
    have ht : hs.map (replH n a) = hs := by
      conv => rhs; rw [← List.map_id hs]
      refine List.map_congr_left (fun y hy => ?_)
      have h1 := (List.pairwise_cons.1 hp).1 y hy
      unfold replH
      rw [beq_false_of_ne (fun e2 => by rw [hn, e2] at h1; exact slt_irrefl _ h1)]
      rfl
    rw [ht]
    unfold replH
    rw [hn, beq_self_eq_true]
    rfl
  | h :: hs, j + 1, x, hp, e, hn => by
    rw [List.getElem?_cons_succ] at e
    have h1 := (List.pairwise_cons.1 hp).1 x (List.mem_of_getElem? e)
    rw [List.set_cons_succ, List.map_cons, set_replH hs j x (List.pairwise_cons.1 hp).2 e hn]
    congr 1
    unfold replH
    rw [beq_false_of_ne (fun e2 => by rw [hn, e2] at h1; exact slt_irrefl _ h1)]
    rfl
theorem point_l1 {r : Repo} (h : RpB r) {n : Str} {a : Int} {K : Int → List Commit → List Head → List Head → Option Repo} (hp : r.Heads.Pairwise (fun x y => x.Name < y.Name)) (he : ∃ x ∈ r.Heads, x.Name = n) : ∀ (k i m : Nat), i + k = r.Heads.length → k < m → (∀ j x, j < i → r.Heads[j]? = some x → x.Name ≠ n) →
    impl_Repo_point_l1 r n a K m (i : Int) [] [] r.Heads = some ⟨r.Commits, r.Heads.map (replH n a)⟩
  | k, i, 0, _, hm, _ => by omega
  | 0, i, m + 1, hi, _, hno => by
    obtain ⟨x, hx, e⟩ := he
    obtain ⟨j, hj⟩ := List.getElem?_of_mem hx
    exact absurd e (hno j x (by have := ix_of hj; omega) hj)
  | k + 1, i, m + 1, hi, hm, hno => by
    have hlt : i < r.Heads.length := by omega
    have hx : r.Heads[i]? = some r.Heads[i] := List.getElem?_eq_getElem hlt
    simp only [impl_Repo_point_l1, lt_of hx, gi_of hx, cond_true, Option.bind_some, w64_ix hlt (to_maxi h.heads), siM_of hlt]
    cases hb : r.Heads[i].Name == n with
    | true => rw [cond_true, set_replH r.Heads i _ hp hx (by simpa using hb)]
    | false =>
      rw [cond_false]
      exact point_l1 h hp he k (i + 1) m (by omega) (by omega) fun j x hj hjx => by
        rcases Nat.lt_or_ge j i with h1 | h1
        · exact hno j x h1 hjx
        · obtain rfl : j = i := by omega
          rw [hx] at hjx
          cases hjx
          exact fun e => by simp [e] at hb
theorem point_any {r : Repo} (h : RpB r) (hp : r.Heads.Pairwise (fun x y => x.Name < y.Name)) (n : Str) (a : Int) : impl_Repo_point r n a = some (headR r n a) := by
  by_cases he : ∃ x ∈ r.Heads, x.Name = n
  · unfold headR
    rw [putH_there n a r.Heads hp he]
    unfold impl_Repo_point
    simp only [jn, fuel0]
    exact point_l1 h hp he r.Heads.length 0 (r.Heads.length + 1) (by omega) (by omega) (fun j x hj => by omega)
  · exact point_eq h hp fun x hx e => he ⟨x, hx, e⟩
end Go.Vm

namespace Go.Vm
open Go Go.Sx
set_option linter.unusedSimpArgs false
set_option linter.unusedVariables false

def fit64 (p : Int) : Prop := -9223372036854775808 ≤ p ∧ p ≤ 9223372036854775807
/-- What is ahead of a commit that was sent, taken on: it is one that was sent ahead of it, or one of those that are had. -/
def onP (has : List Int) (i : Nat) (p : Int) : Bool := upB i p || (decide (p < 0) && decide (-(has.length : Int) ≤ p))
def toP (has : List Int) (base i : Nat) (p : Int) : Int := bif upB i p then (base : Int) + p else has.getD (-1 - p).toNat 0
def toC (has : List Int) (base i : Nat) (c : Commit) : Commit := ⟨c.Parents.map (toP has base i), c.Who, c.Tree⟩
def okS (has : List Int) : Nat → List Commit → Bool
  | _, [] => true
  | i, c :: cs => c.Parents.all (onP has i) && okS has (i + 1) cs
def sentL (has : List Int) (base : Nat) : Nat → List Commit → List Commit
  | _, [] => []
  | i, c :: cs => toC has base i c :: sentL has base (i + 1) cs
theorem sentL_len (has : List Int) (base : Nat) : ∀ (cs : List Commit) (i : Nat), (sentL has base i cs).length = cs.length
  | [], i => rfl
  | c :: cs, i => by simp [sentL, sentL_len has base cs]
theorem sentL_mem {has : List Int} {base : Nat} : ∀ {cs : List Commit} {i : Nat} {x : Commit}, x ∈ sentL has base i cs → ∃ j c, c ∈ cs ∧ x = toC has base j c
  | [], i, x, h => by simp [sentL] at h
  | c :: cs, i, x, h => by
    simp only [sentL, List.mem_cons] at h
    rcases h with rfl | h
    · exact ⟨i, c, by simp, rfl⟩
    · obtain ⟨j, d, hd, e⟩ := sentL_mem h
      exact ⟨j, d, List.mem_cons_of_mem _ hd, e⟩
theorem sentL_mem2 {has : List Int} {base : Nat} : ∀ {cs : List Commit} {i N : Nat} {x : Commit}, cs.length + i ≤ N → x ∈ sentL has base i cs → ∃ j c, c ∈ cs ∧ j ≤ N ∧ x = toC has base j c
  | [], i, N, x, _, h => by simp [sentL] at h
  | c :: cs, i, N, x, hN, h => by
    simp only [sentL, List.mem_cons] at h
    simp only [List.length_cons] at hN
    rcases h with rfl | h
    · exact ⟨i, c, by simp, by omega, rfl⟩
    · obtain ⟨j, d, hd, hj, e⟩ := sentL_mem2 (show cs.length + (i + 1) ≤ N by omega) h
      exact ⟨j, d, List.mem_cons_of_mem _ hd, hj, e⟩
def firstI (has : List Int) : Int := bif decide (0 < (has.length : Int)) then has.getD 0 0 else -1
def endAt (has : List Int) (base n : Nat) : Int := bif n == 0 then firstI has else ((base + n - 1 : Nat) : Int)
def takeR (r : Repo) (has : List Int) (sent : List Commit) (n : Str) : Repo := headR ⟨r.Commits ++ sentL has r.Commits.length 0 sent, r.Heads⟩ n (endAt has r.Commits.length sent.length)
def anyB (r : Repo) (has : List Int) : Bool := has.all (upB r.Commits.length) && decide ((has.length : Int) ≤ 16)
def takeB (r : Repo) (has : List Int) (sent : List Commit) (n : Str) : Repo × Bool := bif repoB r then (bif okS has 0 sent && (anyB r has && repoB (takeR r has sent n)) then (takeR r has sent n, true) else (r, false)) else (zeroR, false)

def half (f : Int → Int) (P : List Int) (k : Nat) : List Int := (P.take k).map f ++ P.drop k
theorem half_len (f : Int → Int) (P : List Int) (k : Nat) : (half f P k).length = P.length := by unfold half; simp; omega
theorem half_at {f : Int → Int} {P : List Int} {k : Nat} (h : k < P.length) : (half f P k)[k]? = some P[k] := by
  unfold half
  rw [List.getElem?_append_right (by simp; omega)]
  simp [Nat.min_eq_left (Nat.le_of_lt h)]
theorem half_set {f : Int → Int} {P : List Int} {k : Nat} (h : k < P.length) : (half f P k).set k (f P[k]) = half f P (k + 1) := by
  unfold half
  have hl : ((P.take k).map f).length = k := by simp; omega
  rw [List.set_append_right _ _ (by omega), hl, Nat.sub_self, List.drop_eq_getElem_cons h, List.set_cons_zero, List.take_add_one, List.getElem?_eq_getElem h, List.map_append, List.append_assoc]
  rfl
theorem half_end (f : Int → Int) (P : List Int) : half f P P.length = P.map f := by unfold half; simp
section
variable {r : Repo} {has : List Int} {sent : List Commit}
theorem neg_w {p : Int} (h : fit64 p) : w64 (-1 - p) = -1 - p := w64_id (by unfold fit64 at h; omega) (by unfold fit64 at h; omega)
theorem had_at {p : Int} (h0 : p < 0) (h1 : -(has.length : Int) ≤ p) : gi has (-1 - p) = some (has.getD (-1 - p).toNat 0) := by
  have := gi_getI (l := has) (i := (-1 - p).toNat) (by omega)
  rwa [show (((-1 - p).toNat : Nat) : Int) = -1 - p by omega] at this
theorem sst_l2 (hr : RpB r) (hh : has.length ≤ 1048576) {i : Nat} (hi : i ≤ 1048576) {P : List Int} (hl : P.length ≤ 1048576) (hf : ∀ p ∈ P, fit64 p) {K : Bool → Int → List Commit → List Head → List Int → Option (Repo × Bool)} {b : Bool} {j1 : List Commit} {j2 : List Head} : ∀ (j k m : Nat), k + j = P.length → j < m →
    spec_SendTake_l2 r has i K m b (k : Int) j1 j2 (half (toP has r.Commits.length i) P k) = bif (P.drop k).all (onP has i) then K b (P.length : Int) j1 j2 (P.map (toP has r.Commits.length i)) else some (r, false)
  | j, k, 0, _, hm => by omega
  | 0, k, m + 1, hk, _ => by
    obtain rfl : k = P.length := by omega
    simp only [spec_SendTake_l2, half_end, List.length_map, end_of, cond_false, List.drop_length, List.all_nil, cond_true]
  | j + 1, k, m + 1, hk, hm => by
    have hlt : k < P.length := by omega
    have hp := hf _ (List.getElem_mem hlt)
    have hx := half_at (f := toP has r.Commits.length i) hlt
    have hbase := hr.coms
    have ih := sst_l2 (K := K) (b := b) (j1 := j1) (j2 := j2) hr hh hi hl hf j (k + 1) m (by omega) (by omega)
    simp only [spec_SendTake_l2, jn, lt_of hx, gi_of hx, cond_true, Option.bind_some, l1In_eq, low_ix (show i ≤ maxi by unfold maxi; omega), siM_of (show k < (half (toP has r.Commits.length i) P k).length by rw [half_len]; exact hlt), w64_ix hlt (show P.length ≤ maxi by unfold maxi; omega), neg_w hp, low_ix (show has.length ≤ maxi by unfold maxi; omega), l7Copy_eq hr]
    rw [show (decide ((0 : Int) ≤ P[k]) && decide (P[k] ≤ (i : Int) - 1)) = upB i P[k] from rfl, List.drop_eq_getElem_cons hlt, List.all_cons]
    cases hu : upB i P[k] with
    | true =>
      have hv : onP has i P[k] = true := by unfold onP; rw [hu]; rfl
      have ht : toP has r.Commits.length i P[k] = w64 ((r.Commits.length : Int) + P[k]) := by
        obtain ⟨u0, u1⟩ := upB_iff.1 hu
        unfold toP
        rw [hu, cond_true, w64_id (by omega) (by omega)]
      rw [cond_true, ← ht, half_set hlt, hv, Bool.true_and]
      exact ih
    | false =>
      rw [cond_false]
      by_cases hd : (decide ((0 : Int) ≤ -1 - P[k]) && decide (-1 - P[k] ≤ (has.length : Int) - 1)) = true
      · rw [hd, cond_true]
        simp only [Bool.and_eq_true, decide_eq_true_eq] at hd
        have hv : onP has i P[k] = true := by
          unfold onP
          rw [hu, decide_eq_true (show P[k] < 0 by omega), decide_eq_true (show -(has.length : Int) ≤ P[k] by omega)]; rfl
        have ht : toP has r.Commits.length i P[k] = has.getD (-1 - P[k]).toNat 0 := by unfold toP; rw [hu, cond_false]
        rw [decide_eq_true (show P[k] < 0 by omega), cond_true, had_at (by omega) (by omega), Option.bind_some, ← ht, half_set hlt, hv, Bool.true_and]
        exact ih
      · have hv : onP has i P[k] = false := by
          unfold onP
          rw [hu, Bool.false_or]
          cases hq : decide (P[k] < 0) && decide (-(has.length : Int) ≤ P[k]) with
          | false => rfl
          | true =>
            exfalso
            simp only [Bool.and_eq_true, decide_eq_true_eq] at hq
            refine hd ?_
            simp only [Bool.and_eq_true, decide_eq_true_eq]
            omega
        have hd' : (decide ((0 : Int) ≤ -1 - P[k]) && decide (-1 - P[k] ≤ (has.length : Int) - 1)) = false := by simpa using hd
        rw [hd', cond_false, cond_false, hv, Bool.false_and]
        rfl
theorem ist_l2 (hr : RpB r) (hh : has.length ≤ 1048576) {i : Nat} (hi : i ≤ 1048576) {c : Commit} (hl : c.Parents.length ≤ 1048576) (hf : ∀ p ∈ c.Parents, fit64 p) {K : Bool → Int → List Commit → List Head → List Int → Str → List File → Option (Repo × Bool)} {b : Bool} {j1 : List Commit} {j2 : List Head} {s : Str} {t : List File} : ∀ (j k m : Nat), k + j = c.Parents.length → j < m →
    impl_SendTake_l2 r has i c K m b (k : Int) j1 j2 ((c.Parents.take k).map (toP has r.Commits.length i)) s t = bif (c.Parents.drop k).all (onP has i) then K b (c.Parents.length : Int) j1 j2 (c.Parents.map (toP has r.Commits.length i)) s t else some (r, false)
  | j, k, 0, _, hm => by omega
  | 0, k, m + 1, hk, _ => by
    obtain rfl : k = c.Parents.length := by omega
    simp only [impl_SendTake_l2, end_of, cond_false, List.drop_length, List.all_nil, cond_true, List.take_length]
  | j + 1, k, m + 1, hk, hm => by
    have hlt : k < c.Parents.length := by omega
    have hp := hf _ (List.getElem_mem hlt)
    have hx : c.Parents[k]? = some c.Parents[k] := List.getElem?_eq_getElem hlt
    have hbase := hr.coms
    have ih := ist_l2 (K := K) (b := b) (j1 := j1) (j2 := j2) (s := s) (t := t) hr hh hi hl hf j (k + 1) m (by omega) (by omega)
    have htk : (c.Parents.take (k + 1)).map (toP has r.Commits.length i) = (c.Parents.take k).map (toP has r.Commits.length i) ++ [toP has r.Commits.length i c.Parents[k]] := by
      rw [List.take_add_one, hx, List.map_append]; rfl
    have hap : ∀ v : Int, apM ((c.Parents.take k).map (toP has r.Commits.length i)) [v] = some ((c.Parents.take k).map (toP has r.Commits.length i) ++ [v]) := fun v => ap1 (by simp; omega)
    have hn0 : w64 (0 - (has.length : Int)) = -(has.length : Int) := by rw [w64_id (by omega) (by omega)]; omega
    rw [htk] at ih
    simp only [impl_SendTake_l2, jn, lt_of hx, gi_of hx, cond_true, Option.bind_some, within_eq, low_ix (show i ≤ maxi by unfold maxi; omega), w64_ix hlt (show c.Parents.length ≤ maxi by unfold maxi; omega), neg_w hp, hn0, hap, rOwn_eq hr]
    rw [show (decide ((0 : Int) ≤ c.Parents[k]) && decide (c.Parents[k] ≤ (i : Int) - 1)) = upB i c.Parents[k] from rfl, List.drop_eq_getElem_cons hlt, List.all_cons]
    cases hu : upB i c.Parents[k] with
    | true =>
      have hv : onP has i c.Parents[k] = true := by unfold onP; rw [hu]; rfl
      have ht : toP has r.Commits.length i c.Parents[k] = w64 ((r.Commits.length : Int) + c.Parents[k]) := by
        obtain ⟨u0, u1⟩ := upB_iff.1 hu
        unfold toP
        rw [hu, cond_true, w64_id (by omega) (by omega)]
      rw [cond_true, ← ht, hv, Bool.true_and]
      exact ih
    | false =>
      rw [cond_false]
      by_cases hd : (decide (-(has.length : Int) ≤ c.Parents[k]) && decide (c.Parents[k] ≤ -1)) = true
      · rw [hd, cond_true]
        simp only [Bool.and_eq_true, decide_eq_true_eq] at hd
        have hv : onP has i c.Parents[k] = true := by
          unfold onP
          rw [hu, decide_eq_true (show c.Parents[k] < 0 by omega), decide_eq_true (show -(has.length : Int) ≤ c.Parents[k] by omega)]; rfl
        have ht : toP has r.Commits.length i c.Parents[k] = has.getD (-1 - c.Parents[k]).toNat 0 := by unfold toP; rw [hu, cond_false]
        rw [had_at (by omega) (by omega), Option.bind_some, ← ht, hv, Bool.true_and]
        exact ih
      · have hv : onP has i c.Parents[k] = false := by
          unfold onP
          rw [hu, Bool.false_or]
          cases hq : decide (c.Parents[k] < 0) && decide (-(has.length : Int) ≤ c.Parents[k]) with
          | false => rfl
          | true =>
            exfalso
            simp only [Bool.and_eq_true, decide_eq_true_eq] at hq
            refine hd ?_
            simp only [Bool.and_eq_true, decide_eq_true_eq]
            omega
        have hd' : (decide (-(has.length : Int) ≤ c.Parents[k]) && decide (c.Parents[k] ≤ -1)) = false := by simpa using hd
        rw [hd', cond_false, hv, Bool.false_and]
        rfl
def endA (a : Int) (base : Nat) (i : Nat) (cs : List Commit) : Int := bif cs.length == 0 then a else ((base + i + cs.length - 1 : Nat) : Int)
theorem endA_cons (a : Int) (base i : Nat) (c : Commit) (cs : List Commit) : endA a base i (c :: cs) = endA ((base + i : Nat) : Int) base (i + 1) cs := by
  unfold endA
  cases cs with
  | nil => simp
  | cons d cs => simp <;> omega
theorem sst_l1 (hr : RpB r) (hh : has.length ≤ 1048576) (hs : r.Commits.length + sent.length ≤ 1048576) (hc : ∀ c ∈ sent, CB c) (hf : ∀ c ∈ sent, ∀ p ∈ c.Parents, fit64 p) {K : Bool → Int → Int → List Commit → List Head → List Commit → List Head → Option (Repo × Bool)} {hd : List Head} {F : Int → List Commit → Option (Repo × Bool)} (hK : ∀ b a i out j1 j2, K b a i out hd j1 j2 = F a out) : ∀ (k i m : Nat) (a : Int) (out : List Commit) (j1 : List Commit) (j2 : List Head), i + k = sent.length → k < m → out.length = r.Commits.length + i →
    spec_SendTake_l1 r has sent K m false a (i : Int) out hd j1 j2 = bif okS has i (sent.drop i) then F (endA a r.Commits.length i (sent.drop i)) (out ++ sentL has r.Commits.length i (sent.drop i)) else some (r, false)
  | k, i, 0, a, out, j1, j2, _, hm, _ => by omega
  | 0, i, m + 1, a, out, j1, j2, hi, _, ho => by
    obtain rfl : i = sent.length := by omega
    simp only [spec_SendTake_l1, end_of, cond_false, List.drop_length, okS, sentL, cond_true, List.append_nil, hK, endA, List.length_nil, beq_self_eq_true]
  | k + 1, i, m + 1, a, out, j1, j2, hi, hm, ho => by
    have hlt : i < sent.length := by omega
    have hx : sent[i]? = some sent[i] := List.getElem?_eq_getElem hlt
    have hcb := hc _ (List.getElem_mem hlt)
    have hpar := hcb.par
    have hpf := hf _ (List.getElem_mem hlt)
    have e0 : half (toP has r.Commits.length i) sent[i].Parents 0 = sent[i].Parents := by unfold half; simp
    have l2 := fun K' => sst_l2 (K := K') (b := false) (j1 := j1) (j2 := j2) hr hh (show i ≤ 1048576 by omega) hpar hpf sent[i].Parents.length 0 (sent[i].Parents.length + 1) (by omega) (by omega)
    rw [e0] at l2
    simp only [spec_SendTake_l1, jn, lt_of hx, gi_of hx, cond_true, Option.bind_some, l7CopyCommit_eq hcb, fuel0, w64_ix hlt (show sent.length ≤ maxi by unfold maxi; omega)]
    refine (l2 _).trans ?_
    rw [List.drop_zero, List.drop_eq_getElem_cons hlt]
    unfold okS sentL
    cases hon : sent[i].Parents.all (onP has i) with
    | false => rfl
    | true =>
      have ih := sst_l1 hr hh hs hc hf hK k (i + 1) m ((r.Commits.length + i : Nat) : Int) (out ++ [toC has r.Commits.length i sent[i]]) j1 j2 (by omega) (by omega) (by simp; omega)
      rw [cond_true, Bool.true_and, ap1 (show out.length ≤ 1048576 by omega), Option.bind_some, endA_cons]
      have e : w64 (((out ++ [Commit.mk (sent[i].Parents.map (toP has r.Commits.length i)) sent[i].Who sent[i].Tree]).length : Int) - 1) = ((r.Commits.length + i : Nat) : Int) := by
        rw [w64_id (by simp <;> omega) (by simp <;> omega)]
        simp <;> omega
      rw [e]
      refine ih.trans ?_
      rw [List.append_assoc]
      rfl
theorem ist_l1 (hr : RpB r) (hh : has.length ≤ 1048576) (hs : r.Commits.length + sent.length ≤ 1048576) (hc : ∀ c ∈ sent, CB c) (hf : ∀ c ∈ sent, ∀ p ∈ c.Parents, fit64 p) {K : Bool → Int → Int → List Commit → List Head → List Commit → List Head → Option (Repo × Bool)} {hd : List Head} {F : Int → List Commit → Option (Repo × Bool)} (hK : ∀ b a i out j1 j2, K b a i j1 j2 out hd = F a out) : ∀ (k i m : Nat) (a : Int) (out : List Commit) (j1 : List Commit) (j2 : List Head), i + k = sent.length → k < m → out.length = r.Commits.length + i →
    impl_SendTake_l1 r has sent K m false a (i : Int) j1 j2 out hd = bif okS has i (sent.drop i) then F (endA a r.Commits.length i (sent.drop i)) (out ++ sentL has r.Commits.length i (sent.drop i)) else some (r, false)
  | k, i, 0, a, out, j1, j2, _, hm, _ => by omega
  | 0, i, m + 1, a, out, j1, j2, hi, _, ho => by
    obtain rfl : i = sent.length := by omega
    simp only [impl_SendTake_l1, end_of, cond_false, List.drop_length, okS, sentL, cond_true, List.append_nil, hK, endA, List.length_nil, beq_self_eq_true]
  | k + 1, i, m + 1, a, out, j1, j2, hi, hm, ho => by
    have hlt : i < sent.length := by omega
    have hx : sent[i]? = some sent[i] := List.getElem?_eq_getElem hlt
    have hcb := hc _ (List.getElem_mem hlt)
    have hpar := hcb.par
    have hpf := hf _ (List.getElem_mem hlt)
    have l2 := fun K' s t => ist_l2 (K := K') (b := false) (j1 := j1) (j2 := j2) (s := s) (t := t) hr hh (show i ≤ 1048576 by omega) hpar hpf sent[i].Parents.length 0 (sent[i].Parents.length + 1) (by omega) (by omega)
    simp only [impl_SendTake_l1, jn, lt_of hx, gi_of hx, cond_true, Option.bind_some, copyTree_eq hcb.tree, fuel0, w64_ix hlt (show sent.length ≤ maxi by unfold maxi; omega)]
    refine (l2 _ _ _).trans ?_
    rw [List.drop_zero, List.drop_eq_getElem_cons hlt]
    unfold okS sentL
    cases hon : sent[i].Parents.all (onP has i) with
    | false => rfl
    | true =>
      have ih := ist_l1 hr hh hs hc hf hK k (i + 1) m ((r.Commits.length + i : Nat) : Int) (out ++ [toC has r.Commits.length i sent[i]]) j1 j2 (by omega) (by omega) (by simp; omega)
      rw [cond_true, Bool.true_and, ap1 (show out.length ≤ 1048576 by omega), Option.bind_some, endA_cons, show (out.length : Int) = ((r.Commits.length + i : Nat) : Int) by omega]
      refine ih.trans ?_
      rw [List.append_assoc]
      rfl
theorem l12Any_eq (hr : RpB r) {l : List Int} (hl : l.length ≤ 1048576) : spec_l12Any r l = some (anyB r l) := by
  unfold spec_l12Any anyB
  simp only [jn, fuel0]
  rw [loop_list (α := Int) (xs := l) (p := upB r.Commits.length) (r0 := some false) (Z := some (decide ((l.length : Int) ≤ 16))) (f := fun m k => spec_l12Any_l1 r l _ m false k) (fun m k p hp => by
    simp only [spec_l12Any_l1, lt_of hp, gi_of hp, cond_true, Option.bind_some, w64_ix (ix_of hp) (show l.length ≤ maxi by unfold maxi; omega), l1In_eq, low_ix (to_maxi hr.coms)]
    rw [show (decide ((0 : Int) ≤ p) && decide (p ≤ (r.Commits.length : Int) - 1)) = upB r.Commits.length p from rfl]
    cases upB r.Commits.length p <;> rfl) (fun m => by simp only [spec_l12Any_l1, end_of, cond_false]) (by omega)]
  cases l.all (upB r.Commits.length) <;> rfl
theorem putH_self (n : Str) (a : Int) : ∀ (hs : List Head), (⟨n, a⟩ : Head) ∈ putH n a false hs
  | [] => by simp [putH]
  | h :: hs => by
    have ih := putH_self n a hs
    unfold putH
    cases hb : Op.bytesLess h.Name n with
    | false => simp
    | true => cases (h.Name != n) <;> simp [ih]
theorem toC_cb (hb : ∀ c ∈ sent, CB c) {c : Commit} (hc : c ∈ sent) (base j : Nat) : CB (toC has base j c) :=
  ⟨by show (c.Parents.map _).length ≤ _; rw [List.length_map]; exact (hb c hc).par, (hb c hc).who, (hb c hc).tree⟩
theorem take_rb (hr : RpB r) (hs : r.Commits.length + sent.length ≤ 1048576) (hc : ∀ c ∈ sent, CB c) : RpB ⟨r.Commits ++ sentL has r.Commits.length 0 sent, r.Heads⟩ :=
  ⟨by simp [sentL_len]; omega, fun x hx => by
    rcases List.mem_append.1 hx with h1 | h1
    · exact hr.com x h1
    · obtain ⟨j, c, hm, rfl⟩ := sentL_mem h1
      exact toC_cb hc hm _ _, hr.heads, hr.head⟩
theorem endA_end (n : Nat) (hn : sent.length = n) (base : Nat) : endA (firstI has) base 0 sent = endAt has base n := by
  subst hn
  unfold endA endAt
  rw [Nat.add_zero]
theorem firstI_eq {K : Int → Option (Repo × Bool)} : (bif decide ((0 : Int) < (has.length : Int)) then ((gi has 0).bind fun u => K u) else K (-1)) = K (firstI has) := by
  unfold firstI
  cases hd : decide ((0 : Int) < (has.length : Int)) with
  | false => rfl
  | true =>
    have h0 : 0 < has.length := by simpa using hd
    have := gi_getI h0
    rw [cond_true, cond_true, show (0 : Int) = ((0 : Nat) : Int) from rfl, this]
    rfl
theorem sSendTake_eq (hr : RpB r) (hh : has.length ≤ 1048576) (hs : r.Commits.length + sent.length ≤ 1048576) (hc : ∀ c ∈ sent, CB c) (hf : ∀ c ∈ sent, ∀ p ∈ c.Parents, fit64 p) {n : Str} (hn : n.length ≤ 1048576) : spec_SendTake r has sent n = some (takeB r has sent n) := by
  unfold spec_SendTake takeB
  rw [l7Ok_eq hr, Option.bind_some]
  cases hok : repoB r with
  | false => rfl
  | true =>
    obtain ⟨s1, s2⟩ := repo_small hok
    have hrb := take_rb (has := has) hr hs hc
    have hhd := hrb.headR (show r.Heads.length ≤ 100000 by omega) hn (endAt has r.Commits.length sent.length)
    simp only [Bool.not_true, cond_false, cond_true, l7Copy_eq hr, Option.bind_some, jn, fuel0]
    rw [firstI_eq]
    have key := sst_l1 (hd := r.Heads) hr hh hs hc hf (K := fun _ y49 _ y54 y57 _ _ =>
        (spec_l7Head (Repo.mk y54 y57) n y49).bind fun z344 => (spec_l12Any r has).bind fun z456 =>
        bif (!z456) then (bif true then (some (r, false)) else (some (z344, true)))
        else ((spec_l7Ok z344).bind fun z470 => bif (!z470) then (some (r, false)) else (some (z344, true)))) (F := fun a out => (spec_l7Head (Repo.mk out r.Heads) n a).bind fun z344 => (spec_l12Any r has).bind fun z456 =>
        bif (!z456) then (bif true then (some (r, false)) else (some (z344, true)))
        else ((spec_l7Ok z344).bind fun z470 => bif (!z470) then (some (r, false)) else (some (z344, true)))) (fun _ _ _ _ _ _ => rfl) sent.length 0 (sent.length + 1) (firstI has) r.Commits [] [] (by omega) (by omega) (by omega)
    refine key.trans ?_
    rw [List.drop_zero, endA_end _ rfl]
    cases okS has 0 sent with
    | false => rfl
    | true =>
      have e1 := l7Head_eq hrb (show r.Heads.length ≤ 100000 by omega) n (endAt has r.Commits.length sent.length)
      simp only [cond_true, Bool.true_and, e1, Option.bind_some, l12Any_eq hr hh]
      have e2 := l7Ok_eq hhd
      unfold takeR
      cases anyB r has with
      | false => rfl
      | true =>
        simp only [Bool.not_true, cond_false, Bool.true_and, e2, Option.bind_some]
        cases repoB (headR ⟨r.Commits ++ sentL has r.Commits.length 0 sent, r.Heads⟩ n (endAt has r.Commits.length sent.length)) <;> rfl
theorem iSendTake_eq (hr : RpB r) (hh : has.length ≤ 1048576) (hs : r.Commits.length + sent.length ≤ 1048576) (hc : ∀ c ∈ sent, CB c) (hf : ∀ c ∈ sent, ∀ p ∈ c.Parents, fit64 p) {n : Str} (hn : n.length ≤ 1048576) : impl_SendTake r has sent n = some (takeB r has sent n) := by
  unfold impl_SendTake takeB
  rw [RepoOk_eq hr, Option.bind_some]
  cases hok : repoB r with
  | false => rfl
  | true =>
    obtain ⟨s1, s2⟩ := repo_small hok
    have hrb := take_rb (has := has) hr hs hc
    have hhd := hrb.headR (show r.Heads.length ≤ 100000 by omega) hn (endAt has r.Commits.length sent.length)
    have hw : w64 ((sent.length : Int) + (has.length : Int)) = (sent.length : Int) + has.length := w64_id (by omega) (by omega)
    simp only [Bool.not_true, cond_false, cond_true, rOwn_eq hr, Option.bind_some, jn, fuel0, hw]
    by_cases h16 : (16 : Int) < (has.length : Int)
    · have ha : anyB r has = false := by unfold anyB; rw [decide_eq_false (show ¬ (has.length : Int) ≤ 16 by omega), Bool.and_false]
      rw [decide_eq_true h16, ha]
      simp
    rw [decide_eq_false h16, cond_false, are_eq hr (show has.length ≤ 100000 by omega), hok, Option.bind_some, Bool.true_and]
    cases hall : has.all (upB r.Commits.length) with
    | false =>
      have ha : anyB r has = false := by unfold anyB; rw [hall, Bool.false_and]
      rw [ha]
      simp
    | true =>
      have ha : anyB r has = true := by unfold anyB; rw [hall, decide_eq_true (show (has.length : Int) ≤ 16 by omega)]; rfl
      rw [Bool.not_true, cond_false, ha, Bool.true_and]
      cases hz : ((sent.length : Int) + (has.length : Int) == 0) with
      | true =>
        have h0 : (sent.length : Int) + has.length = 0 := by simpa using hz
        have hs0 : sent = [] := List.eq_nil_of_length_eq_zero (by omega)
        have hh0 : has = [] := List.eq_nil_of_length_eq_zero (by omega)
        have hbad : repoB (takeR r has sent n) = false := by
          cases hb : repoB (takeR r has sent n) with
          | false => rfl
          | true =>
            exfalso
            have hm : (⟨n, endAt has r.Commits.length sent.length⟩ : Head) ∈ (takeR r has sent n).Heads := putH_self n _ r.Heads
            have := (head_at hb hm).1
            rw [hs0, hh0] at this
            exact absurd this (by show ¬ (0 : Int) ≤ -1; decide)
        rw [hbad, Bool.and_false]
        rfl
      | false =>
        have key := ist_l1 (hd := r.Heads) hr hh hs hc hf (K := fun _ y80 _ _ _ y93 y96 =>
            (impl_Repo_point (Repo.mk y93 y96) n y80).bind fun z610 => (impl_Repo_tried r (Repo.mk z610.Commits z610.Heads)).bind fun z622 => some (Repo.mk z622.1.Commits z622.1.Heads, z622.2)) (F := fun a out => (impl_Repo_point (Repo.mk out r.Heads) n a).bind fun z610 => (impl_Repo_tried r (Repo.mk z610.Commits z610.Heads)).bind fun z622 => some (Repo.mk z622.1.Commits z622.1.Heads, z622.2)) (fun _ _ _ _ _ _ => rfl) sent.length 0 (sent.length + 1) (firstI has) r.Commits [] [] (by omega) (by omega) (by omega)
        rw [cond_false, firstI_eq]
        refine key.trans ?_
        rw [List.drop_zero, endA_end _ rfl]
        cases okS has 0 sent with
        | false => rfl
        | true =>
          rw [cond_true, Bool.true_and, point_any hrb (show List.Pairwise _ r.Heads from heads_asc hok), Option.bind_some, show ∀ x : Repo, (⟨x.Commits, x.Heads⟩ : Repo) = x from fun _ => rfl, tried_eq hr hhd, Option.bind_some]
          unfold takeR
          cases repoB (headR ⟨r.Commits ++ sentL has r.Commits.length 0 sent, r.Heads⟩ n (endAt has r.Commits.length sent.length)) <;> rfl
theorem sentL_bulk (has : List Int) (base : Nat) : ∀ (cs : List Commit) (i : Nat), sumB Bk.bulk (sentL has base i cs) = sumB Bk.bulk cs
  | [], i => rfl
  | c :: cs, i => by
    have h1 : Bk.bulk (toC has base i c) = Bk.bulk c := by
      show ((c.Parents.map _).length + sumB Bk.bulk (c.Parents.map (toP has base i))) + _ = (c.Parents.length + sumB Bk.bulk c.Parents) + _
      rw [List.length_map]
      have : ∀ l : List Int, sumB Bk.bulk l = 0 := fun l => by
        induction l with
        | nil => rfl
        | cons a l ih => simp only [sumB, ih]; rfl
      rw [this, this]
      rfl
    simp only [sentL, sumB, h1, sentL_bulk has base cs]
theorem takeB_bulk {n : Str} : Bk.bulk (takeB r has sent n).1 ≤ Bk.bulk r + Bk.bulk sent + n.length + 2 := by
  have h0 : Bk.bulk r = r.Commits.length + sumB Bk.bulk r.Commits + (r.Heads.length + sumB Bk.bulk r.Heads) := rfl
  have h9 : Bk.bulk sent = sent.length + sumB Bk.bulk sent := rfl
  unfold takeB
  cases repoB r with
  | false => show 0 + 0 + (0 + 0) ≤ _; omega
  | true =>
    rw [cond_true]
    cases okS has 0 sent && (anyB r has && repoB (takeR r has sent n)) with
    | false => show Bk.bulk r ≤ _; omega
    | true =>
      show (r.Commits ++ sentL has r.Commits.length 0 sent).length + sumB Bk.bulk (r.Commits ++ sentL has r.Commits.length 0 sent) + ((putH n (endAt has r.Commits.length sent.length) false r.Heads).length + sumB Bk.bulk (putH n (endAt has r.Commits.length sent.length) false r.Heads)) ≤ _
      have h1 := putH_bulk n (endAt has r.Commits.length sent.length) r.Heads false
      have h2 := putH_len n (endAt has r.Commits.length sent.length) r.Heads false
      have h3 : ∀ (xs ys : List Commit), sumB Bk.bulk (xs ++ ys) = sumB Bk.bulk xs + sumB Bk.bulk ys := fun xs ys => by
        induction xs with
        | nil => simp [sumB]
        | cons a l ih => simp only [List.cons_append, sumB, ih]; omega
      rw [h3, sentL_bulk, List.length_append, sentL_len]
      simp at h1 h2
      omega
theorem takeB_fit (h : Bk.fit r) (hs : r.Commits.length + sent.length ≤ 1048576) (hl : r.Heads.length ≤ 1048576) {n : Str} (hn : Bk.fit n) (hh : Bk.fit has) (ht : Bk.fit sent) : Bk.fit (takeB r has sent n).1 := by
  unfold takeB
  cases hr : repoB r with
  | false => exact ⟨⟨by simp [zeroR, maxi], by simp [zeroR]⟩, by simp [zeroR, maxi], by simp [zeroR]⟩
  | true =>
    rw [cond_true]
    obtain ⟨s1, s2⟩ := repo_small hr
    cases okS has 0 sent && (anyB r has && repoB (takeR r has sent n)) with
    | false => exact h
    | true =>
      have hI : ∀ (j : Nat), fit64 (has.getD j 0) := fun j => by
        rw [List.getD]
        cases hj : has[j]? with
        | none => exact ⟨by decide, by decide⟩
        | some x => exact hh.2 x (List.mem_of_getElem? hj)
      refine ⟨⟨?_, fun x hx => ?_⟩, ?_, fun x hx => ?_⟩
      · show (r.Commits ++ sentL has r.Commits.length 0 sent).length ≤ maxi
        rw [List.length_append, sentL_len]
        unfold maxi; omega
      · rcases List.mem_append.1 hx with h1 | h1
        · exact h.1.2 x h1
        · obtain ⟨j, c, hm, hj, rfl⟩ := sentL_mem2 (show sent.length + 0 ≤ 1048576 by omega) h1
          obtain ⟨c1, c2, c3⟩ := ht.2 c hm
          refine ⟨⟨by show (c.Parents.map _).length ≤ maxi; rw [List.length_map]; exact c1.1, fun p hp => ?_⟩, c2, c3⟩
          obtain ⟨q, hq, rfl⟩ := List.mem_map.1 hp
          show fit64 _
          unfold toP
          cases hu : upB j q with
          | false => exact hI _
          | true =>
            obtain ⟨u0, u1⟩ := upB_iff.1 hu
            rw [cond_true]
            exact ⟨by omega, by omega⟩
      · have h2 := putH_len n (endAt has r.Commits.length sent.length) r.Heads false
        simp at h2
        show (putH n (endAt has r.Commits.length sent.length) false r.Heads).length ≤ maxi
        unfold maxi
        omega
      · rcases putH_mem n (endAt has r.Commits.length sent.length) r.Heads false x hx with h1 | h1
        · exact h.2.2 x h1
        · rw [h1]
          refine ⟨hn, ?_⟩
          show fit64 (endAt has r.Commits.length sent.length)
          unfold endAt firstI
          cases sent.length == 0 with
          | false =>
            rw [cond_false]
            unfold fit64
            omega
          | true =>
            cases decide ((0 : Int) < (has.length : Int)) with
            | false => show fit64 (-1); exact ⟨by decide, by decide⟩
            | true => exact hI 0
theorem FnExactSendTake_eq {repo : Repo} {name : Str} (h : Bk.fit repo) (hh : Bk.fit has) (ht : Bk.fit sent) (hw : Bk.fit name) : laws_FnExactSendTake repo has sent name = some true := by
  unfold laws_FnExactSendTake
  by_cases hc : (1048576 : Int) < (has.length : Int)
  · rw [decide_eq_true hc]; rfl
  rw [decide_eq_false hc, cond_false]
  by_cases hc2 : (1048576 : Int) < (name.length : Int)
  · rw [decide_eq_true hc2]; rfl
  rw [decide_eq_false hc2, cond_false, eszRepo h (by omega) (by omega), Option.bind_some]
  by_cases hb : (Bk.bulk repo : Int) ≤ 1048576
  case neg => rw [if_neg hb]; rfl
  rw [if_pos hb, decide_eq_false (by omega), cond_false, eszCommitS ht (by omega) (by omega), Option.bind_some]
  by_cases hb2 : (Bk.bulk sent : Int) ≤ 1048576 - Bk.bulk repo
  case neg => rw [if_neg hb2]; rfl
  rw [if_pos hb2, decide_eq_false (by omega), cond_false]
  have b1 : Bk.bulk repo ≤ 1048576 := by omega
  have b1' : Bk.bulk sent ≤ 1048576 := by omega
  have hr := RpB.of h b1
  have hl : has.length ≤ 1048576 := by omega
  have hbI : Bk.bulk has ≤ 1048576 := by
    have : ∀ l : List Int, sumB Bk.bulk l = 0 := fun l => by
      induction l with
      | nil => rfl
      | cons a l ih => simp only [sumB, ih]; rfl
    show has.length + sumB Bk.bulk has ≤ _
    rw [this]; omega
  have hcb : ∀ c ∈ sent, CB c := fun c hm => by
    have h1 : Bk.bulk c ≤ 1048576 := bulk_mem b1' hm
    have h2 : Bk.bulk c = Bk.bulk c.Parents + (c.Who.length + Bk.bulk c.Tree) := rfl
    exact ⟨bulk_len (show Bk.bulk c.Parents ≤ 1048576 by omega), by omega, TB.of (ht.2 c hm).2.2 (by omega)⟩
  have hfp : ∀ c ∈ sent, ∀ p ∈ c.Parents, fit64 p := fun c hm p hp => (ht.2 c hm).1.2 p hp
  have hlen : repo.Commits.length + sent.length ≤ 1048576 := by
    have h0 : Bk.bulk repo = repo.Commits.length + sumB Bk.bulk repo.Commits + (repo.Heads.length + sumB Bk.bulk repo.Heads) := rfl
    have h9 : Bk.bulk sent = sent.length + sumB Bk.bulk sent := rfl
    omega
  have hn : name.length ≤ 1048576 := by omega
  have hf := takeB_fit (n := name) (has := has) (sent := sent) h hlen hr.heads hw hh ht
  have b2 := takeB_bulk (r := repo) (n := name) (has := has) (sent := sent)
  have c1 := few_mdVRepo repo
  have c2 := few_mdVRepo (takeB repo has sent name).1
  have c4 := MkD.few_list few_mdInt has
  have c5 := MkD.few_list few_mdECommit sent
  have hg : Bk.fit (mdVRepo.wr 1 (takeB repo has sent name).1).2 := fit_mdVRepo 1 _ (by omega) (by omega) hf
  have c3 := mdVRepo.cnt 1 (takeB repo has sent name).1
  have e2 := mdVRepo.again 1 (takeB repo has sent name).1
  have f1 : (mdVRepo.wr 1 repo).1 = 1 + (mdVRepo.cn repo : Int) := mdVRepo.fst _ _
  have f2 : (mdInt.list.wr (mdVRepo.wr 1 repo).1 has).1 = (mdVRepo.wr 1 repo).1 + (mdInt.list.cn has : Int) := mdInt.list.fst _ _
  have n1 : decide ((mdECommit.list.wr (mdInt.list.wr (mdVRepo.wr 1 repo).1 has).1 sent).1 < 0) = false := decide_eq_false (by rw [mdECommit.list.fst, f2, f1]; omega)
  have n2 : decide ((mdVRepo.wr 1 (takeB repo has sent name).1).1 < 0) = false := decide_eq_false (by rw [mdVRepo.fst]; omega)
  have eta : ∀ x : Repo, (⟨x.Commits, x.Heads⟩ : Repo) = x := fun _ => rfl
  simp only [etoRepo b1, etoIntS hbI, etoCommitS b1', Option.bind_some, eta, sSendTake_eq hr hl hlen hcb hfp hn, iSendTake_eq hr hl hlen hcb hfp hn, jn, eeqRepo hf, eeqRepo h, eeqIntS hh, eeqCommitS ht, beq_self_eq_true, Bool.not_true, cond_false, bne_self_eq_false,
    emarkRepo (x := repo) (k := 1) (by omega) (by omega) h, emarkIntS (xs := has) (k := (mdVRepo.wr 1 repo).1) (by omega) (by omega) hh, emarkCommitS (xs := sent) (k := (mdInt.list.wr (mdVRepo.wr 1 repo).1 has).1) (by omega) (by omega) ht, n1, emarkRepo (x := (takeB repo has sent name).1) (k := 1) (by omega) (by omega) hf,
    eheldRepo (mdVRepo.held_wr 1 (takeB repo has sent name).1) (show (0 : Int) ≤ 1 by omega) (by omega) hg, e2, n2]
end
end Go.Vm
