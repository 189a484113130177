/- Plain laws of reviews: who said yes. Conditions: each law's own premises. -/
import Derived.Test.YtmjjhnahdmlmaaaXQo
namespace Go.Vm
open Go Go.Sx
set_option linter.unusedSimpArgs false
set_option linter.unusedVariables false

/-- Names, each behind the one ahead of it. -/
def ordN (xs : List Str) (i : Nat) : Bool := nameB (xs.getD i []) && (bif decide (0 < (i : Int)) then Op.bytesLess (xs.getD (i - 1) []) (xs.getD i []) else true)
def namesB (xs : List Str) : Bool := allN (ordN xs) 0 xs.length
theorem getD_of {xs : List Str} {i : Nat} {x : Str} (h : xs[i]? = some x) : xs.getD i [] = x := by simp [List.getD, h]
theorem le_less (a b : Str) : (Op.bytesLess a b || a == b) = !Op.bytesLess b a := by
  rw [less_iff, less_iff]
  by_cases h : b < a
  · have h1 : ¬ a < b := fun h2 => slt_irrefl a (slt_trans h2 h)
    have h2 : ¬ a = b := fun e => by rw [e] at h; exact slt_irrefl b h
    simp [h, h1, h2]
  · by_cases e : a = b
    · simp [h, e]
    · have := slt_of_le_ne (not_slt.1 h) e
      simp [h, this]
theorem prev_at {xs : List Str} {i : Nat} {x : Str} (h : xs[i]? = some x) (hl : xs.length ≤ maxi) (h0 : (0 : Int) < (i : Int)) : ∃ y, gi xs (w64 ((i : Int) - 1)) = some y ∧ xs.getD (i - 1) [] = y := by
  have hi := ix_of h
  have e : w64 ((i : Int) - 1) = ((i - 1 : Nat) : Int) := by rw [w64_id (by omega) (by unfold maxi at hl; omega)]; omega
  have hx : xs[i - 1]? = some xs[i - 1] := List.getElem?_eq_getElem (by omega)
  exact ⟨_, by rw [e]; exact gi_of hx, getD_of hx⟩
theorem namesOk_eq {xs : List Str} (h : Bk.fit xs) : impl_namesOk xs = some (namesB xs) := by
  unfold impl_namesOk namesB
  simp only [jn, fuel0]
  rw [loop_all (n := xs.length) (g := ordN xs) (r0 := some false) (Z := some true) (f := fun m i => impl_namesOk_l1 xs (fun _ _ => some true) m false i) (fun m i hi => by
    have hx : xs[i]? = some xs[i] := List.getElem?_eq_getElem hi
    have fx : xs[i].length ≤ maxi := fit_at h hx
    simp only [impl_namesOk_l1, jn, lt_of hx, gi_of hx, cond_true, Option.bind_some, w64_ix hi (fit_len h), nameOk_eq fx]
    unfold ordN
    rw [getD_of hx]
    cases nameB xs[i]
    · rfl
    · by_cases h0 : (0 : Int) < (i : Int)
      · obtain ⟨y, hy, ey⟩ := prev_at hx (fit_len h) h0
        rw [hy, ey, decide_eq_true h0]
        simp only [Option.bind_some]
        cases Op.bytesLess y xs[i] <;> rfl
      · rw [decide_eq_false h0]; rfl) (fun m => by simp only [impl_namesOk_l1, end_of, cond_false]) _ (by omega)]
  cases allN (ordN xs) 0 xs.length <;> rfl
def revH (v : Review) : Bool := nameB v.Branch && (nameB v.Into && (nameB v.By && (v.Branch != v.Into && decide ((v.Yes.length : Int) ≤ 5))))
def revB (v : Review) : Bool := namesB v.Yes && revH v
theorem ReviewOk_eq {v : Review} (h : Bk.fit v) : impl_ReviewOk v = some (revB v) := by
  obtain ⟨h1, h2, h3, h4⟩ := h
  unfold impl_ReviewOk revB revH
  simp only [jn, nameOk_eq h1, nameOk_eq h2, nameOk_eq h3, namesOk_eq h4, Option.bind_some]
  cases nameB v.Branch <;> cases nameB v.Into <;> cases nameB v.By <;> cases (v.Branch != v.Into) <;> cases decide ((v.Yes.length : Int) ≤ 5) <;> cases namesB v.Yes <;> rfl
theorem l17Ok_eq {v : Review} (h : Bk.fit v) : spec_l17Ok v = some (revB v) := by
  obtain ⟨h1, h2, h3, h4⟩ := h
  unfold spec_l17Ok revB namesB
  simp only [jn, fuel0]
  rw [loop_all (n := v.Yes.length) (g := ordN v.Yes) (r0 := some false) (Z := some (revH v)) (f := fun m i => spec_l17Ok_l1 v _ m false i) (fun m i hi => by
    have hx : v.Yes[i]? = some v.Yes[i] := List.getElem?_eq_getElem hi
    have fx : v.Yes[i].length ≤ maxi := fit_at h4 hx
    simp only [spec_l17Ok_l1, jn, lt_of hx, gi_of hx, cond_true, Option.bind_some, w64_ix hi (fit_len h4), l4Name_eq fx]
    unfold ordN
    rw [getD_of hx]
    cases nameB v.Yes[i]
    · rfl
    · by_cases h0 : (0 : Int) < (i : Int)
      · obtain ⟨y, hy, ey⟩ := prev_at hx (fit_len h4) h0
        rw [hy, ey, decide_eq_true h0]
        simp only [Option.bind_some, le_less]
        cases Op.bytesLess y v.Yes[i] <;> rfl
      · rw [decide_eq_false h0]; rfl) (fun m => by
    simp only [spec_l17Ok_l1, end_of, cond_false, l4Name_eq h1, l4Name_eq h2, l4Name_eq h3, Option.bind_some, revH]
    cases nameB v.Branch <;> cases nameB v.Into <;> cases nameB v.By <;> cases (v.Branch != v.Into) <;> rfl) _ (by omega)]
  cases allN (ordN v.Yes) 0 v.Yes.length <;> rfl
theorem namesB_asd {xs : List Str} (h : namesB xs = true) : Asd xs := by
  have hg := allN_iff.1 h
  have step : ∀ i, (hi : i + 1 < xs.length) → xs[i]'(by omega) < xs[i + 1] := fun i hi => by
    have := hg (i + 1) (by omega) (by omega)
    unfold ordN at this
    rw [getD_of (List.getElem?_eq_getElem hi), decide_eq_true (by omega), Nat.add_sub_cancel, getD_of (List.getElem?_eq_getElem (show i < xs.length by omega))] at this
    simp only [cond_true, Bool.and_eq_true, less_iff, decide_eq_true_eq] at this
    exact this.2
  refine List.pairwise_iff_getElem.2 fun i j hi hj hij => ?_
  induction j with
  | zero => omega
  | succ j ih =>
    rcases Nat.lt_or_ge i j with h1 | h1
    · exact slt_trans (ih (by omega) h1) (step j hj)
    · have : i = j := by omega
      subst this
      exact step i hj
/-- Who says yes. -/
def withYes (v : Review) (l : List Str) : Review := ⟨v.Branch, v.Into, v.By, l⟩
def yesB (v : Review) (who : Str) : Review × Bool :=
  bif revB v then (bif revB (withYes v (insS v.Yes who)) then (withYes v (insS v.Yes who), true) else (v, false)) else (⟨[], [], [], []⟩, false)
theorem rev_short {v : Review} (h : revB v = true) : v.Yes.length ≤ 5 := by
  unfold revB revH at h
  simp only [Bool.and_eq_true, decide_eq_true_eq] at h
  omega
theorem ins_fit {v : Review} {who : Str} (h : Bk.fit v) (hw : who.length ≤ maxi) (h5 : v.Yes.length ≤ 5) : Bk.fit (withYes v (insS v.Yes who)) :=
  ⟨h.1, h.2.1, h.2.2.1, by have := insS_len v.Yes who; unfold maxi; show (insS v.Yes who).length ≤ _; omega, fun s hs => by
    rcases insS_mem.1 hs with h1 | h1
    · exact h.2.2.2.2 s h1
    · rw [h1]; exact hw⟩
theorem iReviewYes_eq {v : Review} {who : Str} (h : Bk.fit v) (hw : who.length ≤ maxi) : impl_ReviewYes v who = some (yesB v who) := by
  unfold impl_ReviewYes yesB
  rw [ReviewOk_eq h, Option.bind_some]
  cases hr : revB v with
  | false => rfl
  | true =>
    have h5 := rev_short hr
    rw [Bool.not_true, cond_false, cond_true, putName_eq (by omega), Option.bind_some]
    have hf := ins_fit h hw h5
    have e := ReviewOk_eq hf
    unfold withYes at e ⊢
    rw [e, Option.bind_some, apN (by omega), Option.bind_some]
    cases revB ⟨v.Branch, v.Into, v.By, insS v.Yes who⟩ <;> rfl
theorem sReviewYes_eq {v : Review} {who : Str} (h : Bk.fit v) (hw : who.length ≤ maxi) : spec_ReviewYes v who = some (yesB v who) := by
  unfold spec_ReviewYes yesB
  rw [l17Ok_eq h, Option.bind_some]
  cases hr : revB v with
  | false => rfl
  | true =>
    have h5 := rev_short hr
    have ha : Asd v.Yes := namesB_asd (by unfold revB at hr; simp only [Bool.and_eq_true] at hr; exact hr.1)
    rw [Bool.not_true, cond_false, cond_true, apN (by omega), Option.bind_some, l5Put_eq (by omega) ha, Option.bind_some]
    have hf := ins_fit h hw h5
    have e := l17Ok_eq hf
    unfold withYes at e ⊢
    rw [e, Option.bind_some, Option.bind_some]
    cases revB ⟨v.Branch, v.Into, v.By, insS v.Yes who⟩ <;> rfl
theorem review_beq (x y : Review) : (x == y) = (x.Branch == y.Branch && (x.Into == y.Into && (x.By == y.By && x.Yes == y.Yes))) := by
  have : ∀ b c : Bool, (b = true ↔ c = true) → b = c := by decide
  apply this
  obtain ⟨a, b, c, d⟩ := x
  obtain ⟨a', b', c', d'⟩ := y
  simp
end Go.Vm
