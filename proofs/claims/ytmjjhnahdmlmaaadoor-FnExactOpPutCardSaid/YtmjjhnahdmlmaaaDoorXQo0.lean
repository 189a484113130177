/- Plain laws of names in order: and what is a name. Conditions: each law's own premises. -/
import Derived.Test.YtmjjhnahdmlmaaaDoorXMd
import Derived.Test.YtmjjhnahdmlmaaaDoorXBk
import Derived.Test.YtmjjhnahdmlmaaaDoorXPl
import Derived.Sort.Walk0
namespace Go.Vm
open Go Go.Sx Go.Proofs
set_option linter.unusedSimpArgs false
set_option linter.unusedVariables false

/-! ### The order of strings -/
def sLt (a b : Str) : Prop := a < b
theorem less_iff (a b : Str) : Op.bytesLess a b = decide (a < b) := bytesLess_eq a b
theorem sle_total (a b : Str) : (decide (a ≤ b) || decide (b ≤ a)) = true := by
  rcases List.le_total a b with h | h <;> simp [h]
theorem sle_trans (a b c : Str) : decide (a ≤ b) = true → decide (b ≤ c) = true → decide (a ≤ c) = true := by
  simp only [decide_eq_true_eq]
  exact List.le_trans
theorem slt_irrefl (a : Str) : ¬ a < a := List.lt_irrefl a
theorem slt_trans {a b c : Str} : a < b → b < c → a < c := List.lt_trans
theorem slt_of_le_ne {a b : Str} (h : a ≤ b) (hn : a ≠ b) : a < b := by
  rcases Decidable.em (a < b) with h1 | h1
  · exact h1
  · exact absurd (List.le_antisymm h (List.not_lt.1 h1)) hn
theorem sle_of_lt {a b : Str} (h : a < b) : a ≤ b := List.le_of_lt h
theorem not_slt {a b : Str} : ¬ a < b ↔ b ≤ a := List.not_lt
/-- Ascending. -/
def Asd (xs : List Str) : Prop := xs.Pairwise (· < ·)
theorem Asd.ext : ∀ {xs ys : List Str}, Asd xs → Asd ys → (∀ a, a ∈ xs ↔ a ∈ ys) → xs = ys
  | [], [], _, _, _ => rfl
  | [], y :: ys, _, _, h => by have := (h y).2 (by simp); simp at this
  | x :: xs, [], _, _, h => by have := (h x).1 (by simp); simp at this
  | x :: xs, y :: ys, hx, hy, h => by
    have hx' := List.pairwise_cons.1 hx
    have hy' := List.pairwise_cons.1 hy
    have e : x = y := by
      rcases List.mem_cons.1 ((h x).1 (by simp)) with e | hm
      · exact e
      · rcases List.mem_cons.1 ((h y).2 (by simp)) with e | hm2
        · exact e.symm
        · exact absurd (slt_trans (hy'.1 x hm) (hx'.1 y hm2)) (slt_irrefl y)
    subst e
    have ht : ∀ a, a ∈ xs ↔ a ∈ ys := fun a => by
      constructor
      · intro ha
        rcases List.mem_cons.1 ((h a).1 (List.mem_cons_of_mem _ ha)) with e | hm
        · exact absurd (by rw [e] at ha; exact hx'.1 x ha) (slt_irrefl x)
        · exact hm
      · intro ha
        rcases List.mem_cons.1 ((h a).2 (List.mem_cons_of_mem _ ha)) with e | hm
        · exact absurd (by rw [e] at ha; exact hy'.1 x ha) (slt_irrefl x)
        · exact hm
    rw [Asd.ext hx'.2 hy'.2 ht]
theorem sort_pw (l : List Str) : (sortStr l).Pairwise (· ≤ ·) := by
  have := List.pairwise_mergeSort (le := fun x y : Str => decide (x ≤ y)) sle_trans sle_total l
  exact this.imp (by simp)
theorem sort_mem {l : List Str} {a : Str} : a ∈ sortStr l ↔ a ∈ l := List.mem_mergeSort
theorem dedup_mem : ∀ (l : List Str) (p : Option Str) (a : Str), a ∈ dedupF p l ∨ some a = p ↔ a ∈ l ∨ some a = p
  | [], p, a => by simp [dedupF]
  | x :: l, p, a => by
    have ih := dedup_mem l (some x) a
    unfold dedupF
    by_cases hp : p = some x
    · rw [if_pos hp, hp]
      rw [ih]
      simp only [List.mem_cons, Option.some.injEq]
      constructor
      · rintro (h | h)
        · exact .inl (.inr h)
        · exact .inr h
      · rintro ((h | h) | h)
        · exact .inr h
        · exact .inl h
        · exact .inr h
    · rw [if_neg hp]
      simp only [List.mem_cons, Option.some.injEq] at ih ⊢
      constructor
      · rintro ((h | h) | h)
        · exact .inl (.inl h)
        · rcases ih.1 (.inl h) with h2 | h2
          · exact .inl (.inr h2)
          · exact .inl (.inl h2)
        · exact .inr h
      · rintro ((h | h) | h)
        · exact .inl (.inl h)
        · rcases ih.2 (.inl h) with h2 | h2
          · exact .inl (.inr h2)
          · exact .inl (.inl h2)
        · exact .inr h
theorem dedup_mem0 {l : List Str} {a : Str} : a ∈ dedup l ↔ a ∈ l := by
  have := dedup_mem l none a
  simpa [dedup] using this
theorem dedupF_sub {l : List Str} {p : Option Str} {a : Str} (h : a ∈ dedupF p l) : a ∈ l := by
  induction l generalizing p with
  | nil => simp [dedupF] at h
  | cons x l ih =>
    unfold dedupF at h
    split at h
    · exact List.mem_cons_of_mem _ (ih h)
    · rcases List.mem_cons.1 h with e | e
      · rw [e]; simp
      · exact List.mem_cons_of_mem _ (ih e)
theorem dedupF_asd : ∀ (l : List Str) (p : Option Str), l.Pairwise (· ≤ ·) → (∀ q, p = some q → ∀ a ∈ l, q ≤ a) → Asd (dedupF p l) ∧ ∀ q, p = some q → ∀ a ∈ dedupF p l, q < a
  | [], p, _, _ => by simp [dedupF, Asd]
  | x :: l, p, h, hp => by
    have h' := List.pairwise_cons.1 h
    obtain ⟨i1, i2⟩ := dedupF_asd l (some x) h'.2 (fun q hq a ha => by cases hq; exact h'.1 a ha)
    unfold dedupF
    by_cases hpx : p = some x
    · rw [if_pos hpx]
      exact ⟨i1, fun q hq a ha => by rw [hpx] at hq; exact i2 q hq a ha⟩
    · rw [if_neg hpx]
      refine ⟨List.pairwise_cons.2 ⟨fun a ha => i2 x rfl a ha, i1⟩, fun q hq a ha => ?_⟩
      have hqx : q < x := slt_of_le_ne (hp q hq x (by simp)) (fun e => hpx (by rw [hq, e]))
      rcases List.mem_cons.1 ha with e | e
      · rw [e]; exact hqx
      · exact slt_trans hqx (i2 x rfl a e)
/-- A name put among others, in order, once. -/
def insS (xs : List Str) (s : Str) : List Str := dedup (sortStr (xs ++ [s]))
theorem insS_asd (xs : List Str) (s : Str) : Asd (insS xs s) := (dedupF_asd _ none (sort_pw _) (fun q hq => by cases hq)).1
theorem insS_mem {xs : List Str} {s a : Str} : a ∈ insS xs s ↔ a ∈ xs ∨ a = s := by
  unfold insS
  rw [dedup_mem0, sort_mem, List.mem_append, List.mem_singleton]
theorem dedupF_len2 : ∀ (zs : List Str) (p : Option Str), (dedupF p zs).length ≤ zs.length
  | [], p => by simp [dedupF]
  | x :: l, p => by
    have := dedupF_len2 l (some x)
    unfold dedupF
    split <;> simp <;> omega
theorem insS_len (xs : List Str) (s : Str) : (insS xs s).length ≤ xs.length + 1 := by
  have := dedupF_len2 (sortStr (xs ++ [s])) none
  unfold insS dedup
  have h2 : (sortStr (xs ++ [s])).length = (xs ++ [s]).length := List.length_mergeSort _
  rw [h2] at this
  simpa using this
theorem insS_again {xs : List Str} {s : Str} : insS (insS xs s) s = insS xs s :=
  Asd.ext (insS_asd _ _) (insS_asd _ _) fun a => by
    rw [insS_mem, insS_mem]
    constructor
    · rintro (h | h)
      · exact h
      · exact .inr h
    · exact .inl
/-! ### Names -/
def wordB (c : UInt8) : Bool := (decide (97 ≤ (c.toNat : Int)) && decide ((c.toNat : Int) ≤ 122)) || (decide (48 ≤ (c.toNat : Int)) && decide ((c.toNat : Int) ≤ 57))
def nameB (s : Str) : Bool := (decide (1 ≤ (s.length : Int)) && decide ((s.length : Int) ≤ 6)) && s.all wordB
theorem wordByte_eq (c : UInt8) : impl_wordByte c = some (wordB c) := by
  unfold impl_wordByte wordB
  simp only [jn]
  cases decide (97 ≤ (c.toNat : Int)) <;> cases decide ((c.toNat : Int) ≤ 122) <;> cases decide (48 ≤ (c.toNat : Int)) <;> cases decide ((c.toNat : Int) ≤ 57) <;> rfl
theorem within_eq (a b c : Int) : impl_within a b c = some (decide (b ≤ a) && decide (a ≤ c)) := by
  unfold impl_within
  simp only [jn]
  cases decide (b ≤ a) <;> rfl
theorem l1In_eq (a b c : Int) : spec_l1In a b c = some (decide (b ≤ a) && decide (a ≤ c)) := by
  unfold spec_l1In
  simp only [jn]
  cases decide (b ≤ a) <;> rfl
theorem nameOk_eq {s : Str} (h : s.length ≤ maxi) : impl_nameOk s = some (nameB s) := by
  unfold impl_nameOk nameB
  simp only [jn, fuel0, within_eq, Option.bind_some]
  cases (decide (1 ≤ (s.length : Int)) && decide ((s.length : Int) ≤ 6))
  case false => rfl
  simp only [Bool.not_true, cond_false, Bool.true_and]
  rw [loop_list (α := UInt8) (xs := s) (p := wordB) (r0 := some false) (Z := some true) (f := fun m i => impl_nameOk_l1 s (fun _ _ => some true) m false i) (fun m i x hx => by
    simp only [impl_nameOk_l1, jn, lt_of hx, chM_of hx, cond_true, Option.bind_some, w64_ix (ix_of hx) h, wordByte_eq]
    cases wordB x <;> rfl) (fun m => by simp only [impl_nameOk_l1, end_of, cond_false]) (by omega)]
  cases s.all wordB <;> rfl
theorem lt_not (a b : Int) : decide (a < b) = !decide (b ≤ a) := by
  by_cases h : a < b
  · rw [decide_eq_true h, decide_eq_false (by omega)]; rfl
  · rw [decide_eq_false h, decide_eq_true (by omega)]; rfl
theorem l4Name_eq {s : Str} (h : s.length ≤ maxi) : spec_l4Name s = some (nameB s) := by
  unfold spec_l4Name nameB
  simp only [jn, fuel0, l1In_eq, Option.bind_some]
  rw [loop_list (α := UInt8) (xs := s) (p := wordB) (r0 := some false) (Z := some (decide (1 ≤ (s.length : Int)) && decide ((s.length : Int) ≤ 6))) (f := fun m i => spec_l4Name_l1 s (fun _ _ => some (decide (1 ≤ (s.length : Int)) && decide ((s.length : Int) ≤ 6))) m false i) (fun m i x hx => by
    simp only [spec_l4Name_l1, jn, lt_of hx, chM_of hx, cond_true, Option.bind_some, w64_ix (ix_of hx) h, lt_not, wordB]
    cases decide (97 ≤ (x.toNat : Int)) <;> cases decide ((x.toNat : Int) ≤ 122) <;> cases decide (48 ≤ (x.toNat : Int)) <;> cases decide ((x.toNat : Int) ≤ 57) <;> rfl) (fun m => by simp only [spec_l4Name_l1, end_of, cond_false]) (by omega)]
  cases s.all wordB <;> cases (decide (1 ≤ (s.length : Int)) && decide ((s.length : Int) ≤ 6)) <;> rfl
end Go.Vm
