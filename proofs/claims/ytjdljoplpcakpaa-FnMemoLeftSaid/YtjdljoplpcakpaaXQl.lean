/- Plain laws of memos over merges: sides may be swapped, what is known becomes what it became, with one more known no more are left. Conditions: each law's own premises. -/
import Derived.Test.YtjdljoplpcakpaaXQk
namespace Go.Vm
open Go Go.Sx
set_option linter.unusedSimpArgs false
set_option linter.unusedVariables false

/-! ### Swapped sides -/
def swapP (p : Part) : Part := ⟨p.Clash, p.Lines, p.Old, p.Two, p.One⟩
section
variable {o a b : List Str} {xs : List Memo}
theorem partP_swap (o a b : List Str) : partP o b a = swapP (partP o a b) := by
  unfold partP
  by_cases hE : a = b
  · subst hE
    simp [swapP, lnP]
  · have e1 : (a == b) = false := beq_false_of_ne hE
    have e2 : (b == a) = false := beq_false_of_ne (Ne.symm hE)
    by_cases hA : a = o
    · have hB : (b == o) = false := beq_false_of_ne (fun h => hE (by rw [hA, h]))
      have hA' : (a == o) = true := by simp [hA]
      simp [hA', hB, e1, e2, swapP, lnP]
    · have hA' : (a == o) = false := beq_false_of_ne hA
      by_cases hB : b = o
      · have hB' : (b == o) = true := by simp [hB]
        simp [hA', hB', e1, e2, swapP, lnP]
      · have hB' : (b == o) = false := beq_false_of_ne hB
        simp [hA', hB', e1, e2, swapP, lnP]
theorem putP_swap (out : List Part) (p : Part) : putP (out.map swapP) (swapP p) = (putP out p).map swapP := by
  unfold putP
  simp only [List.length_map, List.getElem?_map]
  have hc : (swapP p).Clash = p.Clash := rfl
  have hl : (swapP p).Lines = p.Lines := rfl
  rw [hc, hl]
  cases (!p.Clash && p.Lines.length == 0)
  case true => rfl
  rw [cond_false, cond_false]
  cases out[out.length - 1]? with
  | none => simp
  | some q =>
    simp only [Option.map_some]
    have hq : (swapP q).Clash = q.Clash := rfl
    rw [hq]
    cases (!p.Clash && !q.Clash)
    · simp
    · simp [swapP]
theorem lnP_swap (l : List Str) : swapP (lnP l) = lnP l := rfl
theorem mergeS_swap (i x y io ia ib : Int) (out : List Part) : mergeS o b a i y x io ib ia (out.map swapP) = (mergeS o a b i x y io ia ib out).map swapP := by
  unfold mergeS
  rw [partP_swap, putP_swap]
  split
  · rename_i s _
    rw [← lnP_swap [s], putP_swap, lnP_swap]
  · rfl
theorem mergeG_swap : ∀ (ma mb : List Int) (i io ia ib : Int) (out : List Part), mergeG o b a i mb ma io ib ia (out.map swapP) = (mergeG o a b i ma mb io ia ib out).map swapP
  | [], [], i, io, ia, ib, out => by rw [mergeG.eq_def, mergeG.eq_def]
  | [], y :: mb, i, io, ia, ib, out => by rw [mergeG.eq_def, mergeG.eq_def]
  | x :: ma, [], i, io, ia, ib, out => by rw [mergeG.eq_def, mergeG.eq_def]
  | x :: ma, y :: mb, i, io, ia, ib, out => by
    rw [mergeG, mergeG, Bool.or_comm]
    cases (decide (x < 0) || decide (y < 0)) with
    | true => exact mergeG_swap ma mb _ _ _ _ out
    | false =>
      rw [cond_false, cond_false, mergeS_swap]
      exact mergeG_swap ma mb _ _ _ _ _
theorem mergeF_swap (o a b : List Str) : mergeF o b a = (mergeF o a b).map swapP := by
  unfold mergeF
  exact mergeG_swap _ _ 0 0 0 0 []
theorem sameB_comm (m : Memo) (o a b : List Str) : sameB m o b a = sameB m o a b := by
  unfold sameB
  cases m.Old == o <;> cases m.One == a <;> cases m.Two == b <;> cases m.One == b <;> cases m.Two == a <;> rfl
theorem doneB_comm (xs : List Memo) (o a b : List Str) : doneB xs o b a = doneB xs o a b := by
  unfold doneB
  have : (fun m => sameB m o b a) = (fun m => sameB m o a b) := by funext m; exact sameB_comm m o a b
  rw [this]
theorem openB_swap (xs : List Memo) (p : Part) : openB xs (swapP p) = openB xs p := by
  unfold openB swapP
  rw [doneB_comm]
theorem leftN_swap (xs : List Memo) (o a b : List Str) : leftN xs o b a = leftN xs o a b := by
  unfold leftN
  rw [mergeF_swap, List.filter_map, List.length_map]
  have : (openB xs ∘ swapP) = openB xs := by funext p; exact openB_swap xs p
  rw [this]
theorem mergeB_swap (xs : List Memo) (o a b : List Str) : mergeB xs o b a = mergeB xs o a b := by
  unfold mergeB
  rw [Bool.and_comm (textB b)]
theorem leftB_swap (xs : List Memo) (o a b : List Str) : leftB xs o b a = leftB xs o a b := by
  unfold leftB
  rw [mergeB_swap, leftN_swap]
theorem stepT_swap (xs : List Memo) (s : List Str) (p : Part) : stepT xs s (swapP p) = stepT xs s p := by
  unfold stepT swapP
  rw [doneB_comm]
theorem foldM_map {α β σ : Type} (f : α → β) (g : σ → β → Option σ) : ∀ (l : List α) (s : σ), (l.map f).foldlM g s = l.foldlM (fun s x => g s (f x)) s
  | [], s => rfl
  | x :: l, s => by
    simp only [List.map_cons, List.foldlM_cons]
    cases g s (f x) with
    | none => rfl
    | some t => exact foldM_map f g l t
theorem textT_swap (xs : List Memo) (o a b : List Str) : textT xs o b a = textT xs o a b := by
  unfold textT
  rw [mergeF_swap, foldM_map]
  have : (fun s x => stepT xs s (swapP x)) = stepT xs := by funext s x; exact stepT_swap xs s x
  rw [this]
theorem memoT_swap (xs : List Memo) (o a b : List Str) : memoT xs o b a = memoT xs o a b := by
  unfold memoT
  rw [mergeB_swap, textT_swap]

/-! ### What is known -/
theorem sameB_trans {q m : Memo} {o a b : List Str} (h1 : sameB q o a b = true) (h2 : sameB q m.Old m.One m.Two = true) : sameB m o a b = true := by
  unfold sameB at *
  simp only [Bool.and_eq_true, Bool.or_eq_true, beq_iff_eq] at *
  obtain ⟨h1o, h1s⟩ := h1
  obtain ⟨h2o, h2s⟩ := h2
  refine ⟨by rw [← h2o]; exact h1o, ?_⟩
  rcases h1s with ⟨e1, e2⟩ | ⟨e1, e2⟩ <;> rcases h2s with ⟨f1, f2⟩ | ⟨f1, f2⟩
  · exact .inl ⟨by rw [← f1]; exact e1, by rw [← f2]; exact e2⟩
  · exact .inr ⟨by rw [← f2]; exact e2, by rw [← f1]; exact e1⟩
  · exact .inr ⟨by rw [← f1]; exact e1, by rw [← f2]; exact e2⟩
  · exact .inl ⟨by rw [← f2]; exact e2, by rw [← f1]; exact e1⟩
theorem doneB_known {xs : List Memo} : (doneB xs o a b).2 = xs.any fun m => sameB m o a b := by
  unfold doneB
  cases h : xs.find? (fun m => sameB m o a b) with
  | none =>
    rw [List.find?_eq_none] at h
    symm
    rw [List.any_eq_false]
    exact h
  | some m =>
    symm
    rw [List.any_eq_true]
    exact ⟨m, List.mem_of_find?_eq_some h, by simpa using List.find?_some h⟩
theorem putL_known {xs : List Memo} {m : Memo} (h : (doneB xs o a b).2 = true) : (doneB (putL xs m) o a b).2 = true := by
  rw [doneB_known, List.any_eq_true] at h ⊢
  obtain ⟨q, hq, hs⟩ := h
  cases hk : sameB q m.Old m.One m.Two with
  | true => exact ⟨m, by simp [putL], sameB_trans hs hk⟩
  | false => exact ⟨q, by simp [putL, keepB, hk, hq], hs⟩
theorem openB_put {xs : List Memo} {m : Memo} {p : Part} (h : openB (putL xs m) p = true) : openB xs p = true := by
  unfold openB at *
  simp only [Bool.and_eq_true, Bool.not_eq_true'] at *
  refine ⟨h.1, ?_⟩
  cases hd : (doneB xs p.Old p.One p.Two).2 with
  | false => rfl
  | true => rw [putL_known hd] at h; cases h.2
theorem filter_le {α : Type} {p q : α → Bool} (h : ∀ x, p x = true → q x = true) : ∀ l : List α, (l.filter p).length ≤ (l.filter q).length
  | [] => Nat.le_refl _
  | x :: l => by
    have ih := filter_le h l
    rw [List.filter_cons, List.filter_cons]
    cases hp : p x with
    | true => rw [if_pos rfl, if_pos (h x hp)]; simp only [List.length_cons]; omega
    | false =>
      rw [if_neg (by simp)]
      split
      · simp only [List.length_cons]; omega
      · exact ih
theorem filter_lt {α : Type} {p q : α → Bool} (h : ∀ x, p x = true → q x = true) : ∀ {l : List α} {x : α}, x ∈ l → p x = false → q x = true → (l.filter p).length < (l.filter q).length
  | [], x, hx, _, _ => by simp at hx
  | y :: l, x, hx, hp, hq => by
    have ih := filter_le h l
    rw [List.filter_cons, List.filter_cons]
    rcases List.mem_cons.1 hx with e | e
    · subst e
      rw [if_neg (by simp [hp]), if_pos hq]
      simp only [List.length_cons]; omega
    · have ih2 := filter_lt h e hp hq
      cases hpy : p y with
      | true => rw [if_pos rfl, if_pos (h y hpy)]; simp only [List.length_cons]; omega
      | false =>
        rw [if_neg (by simp)]
        split
        · simp only [List.length_cons]; omega
        · exact ih2
theorem left_put (xs : List Memo) (m : Memo) : leftN (putL xs m) o a b ≤ leftN xs o a b := filter_le (fun p h => openB_put h) _
theorem left_less {xs : List Memo} {p : Part} {d : List Str} (hp : p ∈ mergeF o a b) (hc : p.Clash = true) (hl : xs.length < (putL xs ⟨p.Old, p.One, p.Two, d⟩).length) : leftN (putL xs ⟨p.Old, p.One, p.Two, d⟩) o a b < leftN xs o a b := by
  have hall : ∀ q ∈ xs, keepB ⟨p.Old, p.One, p.Two, d⟩ q = true := by
    have h1 : (xs.filter (keepB ⟨p.Old, p.One, p.Two, d⟩)).length = xs.length := by
      have := List.length_filter_le (keepB ⟨p.Old, p.One, p.Two, d⟩) xs
      simp only [putL, List.length_append, List.length_cons, List.length_nil] at hl
      omega
    exact List.length_filter_eq_length_iff.1 h1
  refine filter_lt (fun q h => openB_put h) hp ?_ ?_
  · unfold openB
    have : (doneB (putL xs ⟨p.Old, p.One, p.Two, d⟩) p.Old p.One p.Two).2 = true := by
      rw [doneB_known, List.any_eq_true]
      exact ⟨⟨p.Old, p.One, p.Two, d⟩, by simp [putL], by simp [sameB]⟩
    rw [this]
    simp
  · unfold openB
    have : (doneB xs p.Old p.One p.Two).2 = false := by
      rw [doneB_known, List.any_eq_false]
      intro q hq
      have := hall q hq
      simpa [keepB] using this
    rw [this, hc]; rfl
theorem doneB_nil : doneB [] o a b = ([], false) := rfl
theorem memosB_nil : memosB [] = true := rfl
theorem fitN : Bk.fit ([] : List Memo) := ⟨by simp [maxi], by simp⟩
theorem MergeClash_eq (ho : Bk.fit o) (ha : Bk.fit a) (hb : Bk.fit b) : impl_MergeClash o a b = some (leftB [] o a b) := by
  unfold impl_MergeClash leftB mergeB
  simp only [jn, areTexts_eq ho ha hb, Option.bind_some, memosB_nil, Bool.true_and]
  cases ht : (textB o && (textB a && textB b))
  case false => rfl
  have ht' := ht
  simp only [Bool.and_eq_true] at ht'
  have lo := textB_len ht'.1
  have la := textB_len ht'.2.1
  have lb := textB_len ht'.2.2
  obtain ⟨hn, _⟩ := parts_inv ht'.1 ht'.2.1 ht'.2.2
  simp only [Bool.not_true, cond_false, cond_true, mergeOf_eq (show o.length ≤ 1000 by omega) (show a.length ≤ 1000 by omega) (show b.length ≤ 1000 by omega), Option.bind_some, fuel0]
  rw [loop_count (xs := mergeF o a b) (p := openB []) (Z := fun s => some s) (f := fun m s i => impl_MergeClash_l1 (mergeF o a b) (fun y13 _ => some y13) m s i) (fun m i x s hx hsi => by
    have hi := ix_of hx
    have e1 : w64 ((s : Int) + 1) = ((s + 1 : Nat) : Int) := by rw [w64_id (by omega) (by omega)]; omega
    simp only [impl_MergeClash_l1, jn, lt_of hx, gi_of hx, cond_true, Option.bind_some, w64_ix hi (show (mergeF o a b).length ≤ maxi by unfold maxi; omega), openB, doneB_nil, e1]
    cases x.Clash <;> rfl) (fun m s => by simp only [impl_MergeClash_l1, end_of, cond_false]) (by omega)]
  rfl
theorem MergeText_eq (ho : Bk.fit o) (ha : Bk.fit a) (hb : Bk.fit b) : impl_MergeText o a b = some (memoT [] o a b) := by
  unfold impl_MergeText memoT mergeB impl_merged_at81
  simp only [jn, areTexts_eq ho ha hb, Option.bind_some, memosB_nil, Bool.true_and]
  cases ht : (textB o && (textB a && textB b))
  case false => rfl
  have ht' := ht
  simp only [Bool.and_eq_true] at ht'
  obtain ⟨hto, hta, htb⟩ := ht'
  have lo := textB_len hto
  have la := textB_len hta
  have lb := textB_len htb
  obtain ⟨hn, hq⟩ := parts_inv hto hta htb
  simp only [Bool.not_true, cond_false, cond_true, mergeOf_eq (show o.length ≤ 1000 by omega) (show a.length ≤ 1000 by omega) (show b.length ≤ 1000 by omega), Option.bind_some, fuel0]
  rw [(loop_foldM (xs := mergeF o a b) (step := stepT []) (r0 := some ([], false)) InvT (Z := fun s => some (okT s)) (s0 := []) (f := fun m s i => impl_merged_at81_l1 (mergeF o a b) (fun y16 y19 y20 _ => (impl_TextOk y20).bind fun z95 => bif (!z95) then (some (([] : List Str), false)) else (some (y20, true))) m [] false s i) (fun m i x s hx hI => by
    have hi := ix_of hx
    obtain ⟨q1, q2, q3, q4, q5⟩ := hq x (List.mem_of_getElem? hx)
    refine ⟨?_, fun s' hs' => stepT_inv memosB_nil q1 q2 hI hs'⟩
    have hs1 : s.length ≤ 1000000 := by have := hI.1; omega
    simp only [impl_merged_at81_l1, impl_MergeText_c1, jn, lt_of hx, gi_of hx, cond_true, Option.bind_some, w64_ix hi (show (mergeF o a b).length ≤ maxi by unfold maxi; omega), stepT, doneB_nil, apT hs1 (show x.Lines.length ≤ 1000000 by omega)]
    cases x.Clash <;> rfl) (fun m s hI => by
    simp only [impl_merged_at81_l1, end_of, cond_false, okT]
    rw [TextOk_eq (fit_lines (by have := hI.1; omega) hI.2), Option.bind_some]
    cases textB s <;> rfl) (by omega) ⟨by simp, by simp⟩).1]
  unfold textT
  cases (mergeF o a b).foldlM (stepT []) [] <;> rfl
theorem iMergeOf_eq (ho : Bk.fit o) (ha : Bk.fit a) (hb : Bk.fit b) : impl_MergeOf o a b = some (bif textB o && (textB a && textB b) then mergeF o a b else []) := by
  unfold impl_MergeOf
  rw [areTexts_eq ho ha hb, Option.bind_some]
  cases ht : (textB o && (textB a && textB b))
  case false => rfl
  have ht' := ht
  simp only [Bool.and_eq_true] at ht'
  rw [Bool.not_true, cond_false, mergeOf_eq (by have := textB_len ht'.1; omega) (by have := textB_len ht'.2.1; omega) (by have := textB_len ht'.2.2; omega)]
  rfl
theorem sMergeOf_eq (ho : Bk.fit o) (ha : Bk.fit a) (hb : Bk.fit b) : spec_MergeOf o a b = some (bif textB o && (textB a && textB b) then mergeF o a b else []) := by
  unfold spec_MergeOf
  simp only [jn, l1Ok_eq ho, l1Ok_eq ha, l1Ok_eq hb, Option.bind_some]
  cases hto : textB o
  case false => rfl
  cases hta : textB a
  case false => rfl
  cases htb : textB b
  case false => rfl
  simp only [Bool.not_true, cond_false, Bool.and_self, cond_true]
  rw [l3Of_eq (by have := textB_len hto; omega) (by have := textB_len hta; omega) (by have := textB_len htb; omega)]
  rfl
/-- If a text comes of it nothing is left open. -/
theorem fold_none_open {xs : List Memo} : ∀ {l : List Part} {s t : List Str}, l.foldlM (stepT xs) s = some t → l.filter (openB xs) = []
  | [], s, t, _ => rfl
  | p :: l, s, t, h => by
    rw [List.foldlM_cons] at h
    cases hst : stepT xs s p with
    | none => rw [hst] at h; cases h
    | some s' =>
      rw [hst] at h
      rw [List.filter_cons, fold_none_open (l := l) h]
      have : openB xs p = false := by
        unfold stepT at hst
        unfold openB
        cases hc : p.Clash with
        | false => rfl
        | true =>
          rw [hc, cond_true] at hst
          cases hd : (doneB xs p.Old p.One p.Two).2 with
          | true => rfl
          | false => rw [hd] at hst; cases hst
      rw [this]; rfl
theorem memoT_ok {xs : List Memo} (h : (memoT xs o a b).2 = true) : leftB xs o a b = 0 := by
  unfold memoT at h
  unfold leftB
  cases hm : mergeB xs o a b with
  | false => rw [hm] at h; cases h
  | true =>
    rw [hm, cond_true] at h
    unfold textT at h
    rw [cond_true]
    cases hf : (mergeF o a b).foldlM (stepT xs) [] with
    | none => rw [hf] at h; cases h
    | some t =>
      unfold leftN
      rw [fold_none_open hf]; rfl
/-- Where nothing clashes it does not matter what is known. -/
theorem fold_plain {xs : List Memo} : ∀ {l : List Part} {s t : List Str}, l.foldlM (stepT []) s = some t → l.foldlM (stepT xs) s = some t
  | [], s, t, h => h
  | p :: l, s, t, h => by
    rw [List.foldlM_cons] at h ⊢
    cases hst : stepT [] s p with
    | none => rw [hst] at h; cases h
    | some s' =>
      rw [hst] at h
      have : stepT xs s p = some s' := by
        unfold stepT at *
        cases hc : p.Clash with
        | true => rw [hc] at hst; cases hst
        | false => rw [hc] at hst; exact hst
      rw [this]
      exact fold_plain (l := l) h
theorem memoT_plain {xs : List Memo} (hx : memosB xs = true) (h : (memoT [] o a b).2 = true) : memoT xs o a b = memoT [] o a b := by
  have hm : mergeB xs o a b = mergeB [] o a b := by unfold mergeB; rw [hx, memosB_nil]
  unfold memoT at *
  rw [hm]
  cases hb : mergeB [] o a b with
  | false => rfl
  | true =>
    rw [hb, cond_true] at h
    rw [cond_true, cond_true]
    unfold textT at *
    cases hf : (mergeF o a b).foldlM (stepT []) [] with
    | none => rw [hf] at h; cases h
    | some t => rw [fold_plain hf]
theorem leftN_le (xs : List Memo) : leftN xs o a b ≤ leftN [] o a b := filter_le (fun p h => by
  unfold openB at *
  simp only [Bool.and_eq_true] at h
  rw [h.1, doneB_nil]; rfl) _
end
end Go.Vm
