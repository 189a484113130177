/- Plain laws of what is done: OpOk of both sides. Conditions: each law's own premises. -/
import Derived.Test.YtmjjhnahdmlmaaaDoorXQs
import Derived.Test.YtmjjhnahdmlmaaaDoorXQb0
import Derived.Lib.Join
namespace Go.Vm
open Go Go.Sx
set_option linter.unusedSimpArgs false
set_option linter.unusedVariables false

def noBar (s : Str) : Bool := s.all fun c => !(c == 124)
def barless (t : List Str) : Bool := t.all noBar
theorem join_flat (t : List Str) : Lib.join t [] = t.flatten := by
  cases t with
  | nil => rfl
  | cons x r =>
    have : ∀ (x : Str) (r : List Str), ([] : Str).intercalate (x :: r) = x ++ r.flatten := by
      intro x r
      induction r generalizing x with
      | nil => simp [List.intercalate]
      | cons y r ih =>
        have := ih y
        simp only [List.intercalate, List.intersperse, List.flatten_cons, List.nil_append] at this ⊢
        rw [this]
    exact this x r
theorem flat_len : ∀ t : List Str, t.flatten.length = sumB Bk.bulk t
  | [] => rfl
  | x :: t => by
    rw [List.flatten_cons, List.length_append, flat_len t]
    rfl
theorem contains_one (c : UInt8) (s : Str) : Lib.contains s [c] = decide (c ∈ s) := by
  unfold Lib.contains
  by_cases h : c ∈ s
  · obtain ⟨p, t, rfl, hp⟩ := List.eq_append_cons_of_mem h
    rw [index_at hp, decide_eq_true (show (0 : Int) ≤ ((p.length : Nat) : Int) by omega), decide_eq_true h]
  · rw [index_not h, decide_eq_false h]
    rfl
theorem bar_flat (t : List Str) : (!decide ((124 : UInt8) ∈ t.flatten)) = barless t := by
  have : ∀ b c : Bool, (b = true ↔ c = true) → b = c := by decide
  apply this
  simp only [Bool.not_eq_true', decide_eq_false_iff_not, List.mem_flatten, barless, noBar, List.all_eq_true, beq_eq_false_iff_ne]
  constructor
  · intro h s hs c hc e
    exact h ⟨s, hs, by rw [← e]; exact hc⟩
  · rintro h ⟨s, hs, hc⟩
    exact h s hs 124 hc rfl
theorem l19Lines_eq {t : List Str} (h : Bk.fit t) : spec_l19Lines t = some (barless t && textB t) := by
  have hl := fit_len h
  unfold spec_l19Lines barless
  simp only [jn, fuel0, l1Ok_eq h, Option.bind_some]
  rw [loop_list (α := Str) (xs := t) (p := noBar) (r0 := some false) (Z := some (textB t)) (f := fun m i => spec_l19Lines_l1 t (fun _ _ => some (textB t)) m false i) (fun m i x hx => by
    have hx2 : x.length ≤ maxi := fit_at h hx
    have b124 : ∀ u : UInt8, (((UInt8.toNat u : Nat) : Int) == (124 : Int)) = (u == 124) := fun u => by
      have hb := byte_eq u 124
      rw [show (((UInt8.toNat (124 : UInt8) : Nat) : Int)) = 124 from rfl] at hb
      exact hb
    simp only [spec_l19Lines_l1, lt_of hx, gi_of hx, cond_true, jn, Option.getD_some]
    rw [loop_list (α := UInt8) (xs := x) (p := fun c => !(c == 124)) (r0 := some false) (Z := spec_l19Lines_l1 t (fun _ _ => some (textB t)) m false ((i + 1 : Nat) : Int)) (f := fun m' k => spec_l19Lines_l2 t (i : Int) (fun y10 y11 => spec_l19Lines_l1 t (fun _ _ => some (textB t)) m y10 (w64 ((i : Int) + 1))) m' false k) (fun m' k c hc => by
      simp only [spec_l19Lines_l2, gi_of hx, Option.bind_some, lt_of hc, cond_true, chM_of hc, b124, w64_ix (ix_of hc) hx2]
      cases c == 124 <;> rfl) (fun m' => by simp only [spec_l19Lines_l2, gi_of hx, Option.bind_some, end_of, cond_false, w64_ix (ix_of hx) hl]) (by omega)]
    rfl) (fun m => by simp only [spec_l19Lines_l1, end_of, cond_false]) (by omega)]
  cases t.all noBar <;> rfl
/-- What is done is done rightly. -/
def opB (o : Op) : Bool :=
  nameB o.Branch && (nameB o.Who &&
    (bif o.Kind == 1 then pathB o.Path && (textB o.Text && (barless o.Text && (o.To == [] && o.At == 0)))
     else bif o.Kind == 2 then pathB o.Path && (o.To == [] && (o.At == 0 && (o.Text.length : Int) == 0))
     else bif o.Kind == 3 then pathB o.Path && (pathB o.To && (o.At == 0 && (o.Text.length : Int) == 0))
     else bif o.Kind == 4 || o.Kind == 5 then nameB o.To && (o.Path == [] && (o.At == 0 && (o.Text.length : Int) == 0))
     else bif o.Kind == 6 || o.Kind == 7 then (decide (0 ≤ o.At) && decide (o.At ≤ 15)) && (o.Path == [] && (o.To == [] && (o.Text.length : Int) == 0))
     else false))
structure OpFit (o : Op) : Prop where
  fit : Bk.fit o
  path : o.Path.length ≤ 1048576
  to : o.To.length ≤ 1048576
  text : Bk.bulk o.Text ≤ 1048576
theorem OpFit.of {o : Op} (h : Bk.fit o) (hb : Bk.bulk o ≤ 1048576) : OpFit o := by
  have e : Bk.bulk o = Bk.bulk o.Kind + (Bk.bulk o.Branch + (Bk.bulk o.Who + (Bk.bulk o.Path + (Bk.bulk o.To + (Bk.bulk o.At + Bk.bulk o.Text))))) := rfl
  have e1 : Bk.bulk o.Path = o.Path.length := rfl
  have e2 : Bk.bulk o.To = o.To.length := rfl
  exact ⟨h, by omega, by omega, by omega⟩
theorem Bare_eq (o : Op) (p q r s : Bool) : spec_l19Bare o p q r s = some ((p || o.Path == []) && ((q || o.To == []) && ((r || o.At == 0) && (s || (o.Text.length : Int) == 0)))) := by
  unfold spec_l19Bare
  simp only [jn]
  cases p <;> cases q <;> cases r <;> cases s <;> cases (o.Path == ([] : Str)) <;> cases (o.To == ([] : Str)) <;> cases ((o.At : Int) == (0 : Int)) <;> rfl
theorem iOpOk_eq {o : Op} (h : OpFit o) : impl_OpOk o = some (opB o) := by
  obtain ⟨f0, f1, f2, f3, f4, f5, f6⟩ := h.fit
  have ht := h.text
  have hj : strings_Join o.Text ([] : Str) = some o.Text.flatten := by
    unfold strings_Join
    have := bulk_len ht
    have hs : sumB Bk.bulk o.Text ≤ 1048576 := Nat.le_trans (Nat.le_add_left _ _) ht
    rw [join_flat, if_pos ⟨by omega, by rw [flat_len]; omega⟩]
  have hc : strings_Contains o.Text.flatten ([124] : Str) = some (decide ((124 : UInt8) ∈ o.Text.flatten)) := by
    unfold strings_Contains
    have hs : sumB Bk.bulk o.Text ≤ 1048576 := Nat.le_trans (Nat.le_add_left _ _) ht
    rw [if_pos (by rw [flat_len]; omega), contains_one]
  unfold impl_OpOk opB
  simp only [jn, nameOk_eq f1, nameOk_eq f2, nameOk_eq f4, PathOk_eq h.path, PathOk_eq h.to, TextOk_eq f6, hj, hc, Option.bind_some, within_eq, bar_flat]
  cases nameB o.Branch
  · rfl
  cases nameB o.Who
  · rfl
  simp only [Bool.not_true, cond_false, Bool.true_and]
  cases (o.Kind == (1 : Int))
  case true => cases pathB o.Path <;> cases textB o.Text <;> cases barless o.Text <;> cases (o.To == ([] : Str)) <;> rfl
  cases (o.Kind == (2 : Int))
  case true => cases pathB o.Path <;> cases (o.To == ([] : Str)) <;> cases (o.At == (0 : Int)) <;> rfl
  cases (o.Kind == (3 : Int))
  case true => cases pathB o.Path <;> cases pathB o.To <;> cases (o.At == (0 : Int)) <;> rfl
  simp only [cond_false]
  cases (o.Kind == (4 : Int)) <;> cases (o.Kind == (5 : Int)) <;> cases (o.Kind == (6 : Int)) <;> cases (o.Kind == (7 : Int)) <;> cases nameB o.To <;> cases (o.Path == ([] : Str)) <;> cases (o.At == (0 : Int)) <;> cases (o.To == ([] : Str)) <;> cases (decide (0 ≤ o.At) && decide (o.At ≤ 15)) <;> rfl
theorem l19Ok_eq {o : Op} (h : OpFit o) : spec_l19Ok o = some (opB o) := by
  obtain ⟨f0, f1, f2, f3, f4, f5, f6⟩ := h.fit
  unfold spec_l19Ok opB
  simp only [jn, l4Name_eq f1, l4Name_eq f2, l4Name_eq f4, l4Path_eq h.path, l4Path_eq h.to, l19Lines_eq f6, Bare_eq, Option.bind_some, l1In_eq]
  cases nameB o.Branch
  · rfl
  cases nameB o.Who
  · rfl
  simp only [Bool.not_true, cond_false, Bool.true_and, Bool.true_or, Bool.false_or, Bool.and_true]
  cases (o.Kind == (1 : Int))
  case true => cases pathB o.Path <;> cases textB o.Text <;> cases barless o.Text <;> cases (o.To == ([] : Str)) <;> cases (o.At == (0 : Int)) <;> rfl
  cases (o.Kind == (2 : Int))
  case true => cases pathB o.Path <;> cases (o.To == ([] : Str)) <;> cases (o.At == (0 : Int)) <;> cases ((o.Text.length : Int) == 0) <;> rfl
  cases (o.Kind == (3 : Int))
  case true => cases pathB o.Path <;> cases pathB o.To <;> cases (o.At == (0 : Int)) <;> cases ((o.Text.length : Int) == 0) <;> rfl
  simp only [cond_false]
  cases (o.Kind == (4 : Int)) <;> cases (o.Kind == (5 : Int)) <;> cases (o.Kind == (6 : Int)) <;> cases (o.Kind == (7 : Int)) <;> cases nameB o.To <;> cases (o.Path == ([] : Str)) <;> cases (o.At == (0 : Int)) <;> cases (o.To == ([] : Str)) <;> cases ((o.Text.length : Int) == 0) <;> cases (decide (0 ≤ o.At) && decide (o.At ≤ 15)) <;> rfl
end Go.Vm
