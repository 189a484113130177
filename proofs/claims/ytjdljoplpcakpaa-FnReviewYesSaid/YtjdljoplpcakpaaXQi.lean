/- Plain laws of what memos make of a merge: both sides answer alike. Conditions: each law's own premises. -/
import Derived.Test.YtjdljoplpcakpaaXQh
namespace Go.Sx
open Go
/-- A loop that counts the elements of which p holds. -/
theorem loop_count {R α : Type} {xs : List α} {p : α → Bool} {f : Nat → Int → Int → Option R} {Z : Int → Option R}
    (hs : ∀ m (i : Nat) x (s : Nat), xs[i]? = some x → s ≤ i → f (m + 1) (s : Int) (i : Int) = f m ((bif p x then s + 1 else s : Nat) : Int) ((i + 1 : Nat) : Int))
    (he : ∀ m (s : Nat), f (m + 1) (s : Int) (xs.length : Int) = Z s) {m : Nat} (hm : xs.length < m) : f m 0 0 = Z ((xs.filter p).length : Nat) := by
  have key : ∀ k i m (s : Nat), i + k = xs.length → k < m → s ≤ i → f m (s : Int) (i : Int) = Z ((s + ((xs.drop i).filter p).length : Nat) : Int) := by
    intro k
    induction k with
    | zero =>
      intro i m s hi hm hI
      obtain ⟨m, rfl⟩ : ∃ q, m = q + 1 := ⟨m - 1, by omega⟩
      have hii : i = xs.length := by omega
      subst hii
      rw [he m s, List.drop_length]
      rfl
    | succ k ih =>
      intro i m s hi hm hI
      obtain ⟨m, rfl⟩ : ∃ q, m = q + 1 := ⟨m - 1, by omega⟩
      have hlt : i < xs.length := by omega
      rw [hs m i xs[i] s (List.getElem?_eq_getElem hlt) hI, List.drop_eq_getElem_cons hlt, List.filter_cons]
      cases p xs[i] with
      | true =>
        rw [cond_true, ih (i + 1) m (s + 1) (by omega) (by omega) (by omega), if_pos rfl, List.length_cons]
        congr 2
        omega
      | false =>
        rw [cond_false, ih (i + 1) m s (by omega) (by omega) (by omega), if_neg (by simp)]
  have := key xs.length 0 m 0 (by omega) hm (by omega)
  simpa using this
end Go.Sx
namespace Go.Vm
open Go Go.Sx
set_option linter.unusedSimpArgs false
set_option linter.unusedVariables false

section
variable {o a b : List Str} {Q : Part → Prop}
theorem putP_all {out : List Part} {p : Part} (h3 : ∀ q p : Part, Q q → Q p → q.Clash = false → p.Clash = false → Q ⟨q.Clash, q.Lines ++ p.Lines, q.Old, q.One, q.Two⟩) (h : ∀ q ∈ out, Q q) (hp : Q p) : ∀ q ∈ putP out p, Q q := by
  have happ : ∀ q ∈ out ++ [p], Q q := fun q hq => by
    rcases List.mem_append.1 hq with h1 | h1
    · exact h q h1
    · rw [List.mem_singleton] at h1; rw [h1]; exact hp
  unfold putP
  cases (!p.Clash && p.Lines.length == 0) with
  | true => exact h
  | false =>
    rw [cond_false]
    split
    · rename_i q hq
      cases hc : (!p.Clash && !q.Clash) with
      | false => exact happ
      | true =>
        simp only [Bool.and_eq_true, Bool.not_eq_true'] at hc
        rw [cond_true]
        intro r hr
        rcases List.mem_or_eq_of_mem_set hr with h1 | h1
        · exact h r h1
        · rw [h1]; exact h3 q p (h q (List.mem_of_getElem? hq)) hp hc.2 hc.1
    · exact happ
theorem mergeG_all (h1 : ∀ l h l' h' l'' h'', Q (partP (cutI o l h) (cutI a l' h') (cutI b l'' h''))) (h2 : ∀ s ∈ o, Q (lnP [s]))
    (h3 : ∀ q p : Part, Q q → Q p → q.Clash = false → p.Clash = false → Q ⟨q.Clash, q.Lines ++ p.Lines, q.Old, q.One, q.Two⟩) : ∀ (ma mb : List Int) (i io ia ib : Int) (out : List Part), (∀ q ∈ out, Q q) → ∀ q ∈ mergeG o a b i ma mb io ia ib out, Q q
  | [], mb, i, io, ia, ib, out, h => by rw [mergeG.eq_def]; exact h
  | x :: ma, [], i, io, ia, ib, out, h => by rw [mergeG.eq_def]; exact h
  | x :: ma, y :: mb, i, io, ia, ib, out, h => by
    rw [mergeG]
    cases (decide (x < 0) || decide (y < 0)) with
    | true => exact mergeG_all h1 h2 h3 ma mb _ _ _ _ out h
    | false =>
      refine mergeG_all h1 h2 h3 ma mb _ _ _ _ _ ?_
      have hp := putP_all h3 h (h1 io i ia x ib y)
      unfold mergeS
      split
      · rename_i s hs
        exact putP_all h3 hp (h2 s (List.mem_of_getElem? hs))
      · exact hp
theorem mergeF_all (h1 : ∀ l h l' h' l'' h'', Q (partP (cutI o l h) (cutI a l' h') (cutI b l'' h''))) (h2 : ∀ s ∈ o, Q (lnP [s]))
    (h3 : ∀ q p : Part, Q q → Q p → q.Clash = false → p.Clash = false → Q ⟨q.Clash, q.Lines ++ p.Lines, q.Old, q.One, q.Two⟩) : ∀ q ∈ mergeF o a b, Q q :=
  mergeG_all h1 h2 h3 _ _ _ _ _ _ [] (by simp)
theorem cutI_mem {α : Type} {xs : List α} {l h : Int} {x : α} (hx : x ∈ cutI xs l h) : x ∈ xs := List.mem_of_mem_take (List.mem_of_mem_drop hx)
/-- The lines of parts are lines of the texts. -/
theorem mergeF_lines {P : Str → Prop} (ho : ∀ s ∈ o, P s) (ha : ∀ s ∈ a, P s) (hb : ∀ s ∈ b, P s) : ∀ q ∈ mergeF o a b, (∀ s ∈ q.Lines, P s) ∧ (∀ s ∈ q.Old, P s) ∧ (∀ s ∈ q.One, P s) ∧ (∀ s ∈ q.Two, P s) ∧ q.Old.length ≤ o.length ∧ q.One.length ≤ a.length ∧ q.Two.length ≤ b.length := by
  refine mergeF_all (fun l h l' h' l'' h'' => ?_) (fun s hs => ?_) (fun q p hq hp _ _ => ?_)
  · have c1 := cutI_len o l h
    have c2 := cutI_len a l' h'
    have c3 := cutI_len b l'' h''
    unfold partP lnP
    cases (cutI a l' h' == cutI o l h || cutI a l' h' == cutI b l'' h'') with
    | true => exact ⟨fun s hs => hb s (cutI_mem hs), by simp, by simp, by simp, by simp, by simp, by simp⟩
    | false =>
      rw [cond_false]
      cases (cutI b l'' h'' == cutI o l h) with
      | true => exact ⟨fun s hs => ha s (cutI_mem hs), by simp, by simp, by simp, by simp, by simp, by simp⟩
      | false => exact ⟨by simp, fun s hs => ho s (cutI_mem hs), fun s hs => ha s (cutI_mem hs), fun s hs => hb s (cutI_mem hs), c1, c2, c3⟩
  · exact ⟨by simpa [lnP] using ho s hs, by simp [lnP], by simp [lnP], by simp [lnP], by simp [lnP], by simp [lnP], by simp [lnP]⟩
  · exact ⟨fun s hs => (List.mem_append.1 hs).elim (hq.1 s) (hp.1 s), hq.2⟩
theorem mergeF_PB2 (ho : o.length ≤ 1000) (ha : a.length ≤ 1000) (hb : b.length ≤ 1000) : PB (2 * (o.length + 1)) (mergeF o a b) := by
  have := mergeG_PB (o := o) ha hb (mt2 o a ++ [(a.length : Int)]) (mt2 o b ++ [(b.length : Int)]) 0 0 0 0 0 [] ⟨by simp, by simp⟩
  rw [(asc_full o a).2] at this
  exact this.mono (by omega)
end

/-! ### Memos -/
def doneB (xs : List Memo) (o a b : List Str) : List Str × Bool := match xs.find? (fun m => sameB m o a b) with
  | some m => (m.Done, true)
  | none => ([], false)
section
variable {xs : List Memo} {o a b : List Str}
theorem l18Find_eq (h : Bk.fit xs) : spec_l18Find xs o a b = some (doneB xs o a b) := by
  have hl := fit_len h
  unfold spec_l18Find doneB
  simp only [jn, fuel0]
  rw [loop_find (xs := xs) (p := fun m => sameB m o a b) (r := fun m => some (m.Done, true)) (Z := some ([], false)) (f := fun m i => spec_l18Find_l1 xs o a b (fun _ _ _ => some ([], false)) m [] false i) (fun m i x hx => by
    simp only [spec_l18Find_l1, lt_of hx, gi_of hx, cond_true, Option.bind_some, l18Same_eq (fit_at h hx), w64_ix (ix_of hx) hl]) (fun m => by simp only [spec_l18Find_l1, end_of, cond_false]) (by omega)]
  cases xs.find? (fun m => sameB m o a b) <;> rfl
theorem done_eq (h : Bk.fit xs) {p : Part} : impl_done xs p = some (doneB xs p.Old p.One p.Two) := by
  have hl := fit_len h
  unfold impl_done doneB
  simp only [jn, fuel0]
  rw [loop_find (xs := xs) (p := fun m => sameB m p.Old p.One p.Two) (r := fun m => some (m.Done, true)) (Z := some ([], false)) (f := fun m i => impl_done_l1 xs p (fun _ _ _ => some ([], false)) m [] false i) (fun m i x hx => by
    simp only [impl_done_l1, lt_of hx, gi_of hx, cond_true, Option.bind_some, Memo_is_eq (fit_at h hx), w64_ix (ix_of hx) hl]) (fun m => by simp only [impl_done_l1, end_of, cond_false]) (by omega)]
  cases xs.find? (fun m => sameB m p.Old p.One p.Two) <;> rfl
theorem textB_len {t : List Str} (h : textB t = true) : t.length ≤ 10 := by
  unfold textB at h
  simp only [Bool.and_eq_true, Bool.not_eq_true', decide_eq_false_iff_not] at h
  omega
theorem textB_line {t : List Str} (h : textB t = true) : ∀ s ∈ t, lineB s = true := by
  unfold textB at h
  simp only [Bool.and_eq_true, List.all_eq_true] at h
  exact h.2
theorem lineB_len {s : Str} (h : lineB s = true) : s.length ≤ 12 := by
  unfold lineB at h
  simp only [Bool.and_eq_true, Bool.not_eq_true', decide_eq_false_iff_not] at h
  omega
/-- A clash of which nothing is known. -/
def openB (xs : List Memo) (p : Part) : Bool := p.Clash && !(doneB xs p.Old p.One p.Two).2
def leftN (xs : List Memo) (o a b : List Str) : Nat := ((mergeF o a b).filter (openB xs)).length
def mergeB (xs : List Memo) (o a b : List Str) : Bool := memosB xs && (textB o && (textB a && textB b))
def leftB (xs : List Memo) (o a b : List Str) : Int := bif mergeB xs o a b then (leftN xs o a b : Int) else -1
theorem sMemoLeft_eq (h : Bk.fit xs) (ho : Bk.fit o) (ha : Bk.fit a) (hb : Bk.fit b) : spec_MemoLeft xs o a b = some (leftB xs o a b) := by
  unfold spec_MemoLeft leftB mergeB
  simp only [jn, l18Ok_eq h, l1Ok_eq ho, l1Ok_eq ha, l1Ok_eq hb, Option.bind_some]
  cases memosB xs
  case false => rfl
  cases hto : textB o
  case false => rfl
  cases hta : textB a
  case false => rfl
  cases htb : textB b
  case false => rfl
  have lo := textB_len hto
  have la := textB_len hta
  have lb := textB_len htb
  simp only [Bool.not_true, cond_false, Bool.and_self, cond_true, l3Of_eq (show o.length ≤ 1000 by omega) (show a.length ≤ 1000 by omega) (show b.length ≤ 1000 by omega), Option.bind_some, fuel0]
  have hP := mergeF_PB2 (o := o) (a := a) (b := b) (by omega) (by omega) (by omega)
  have hn : (mergeF o a b).length ≤ 22 := Nat.le_trans hP.1 (by omega)
  rw [loop_count (xs := mergeF o a b) (p := openB xs) (Z := fun s => some s) (f := fun m s i => spec_MemoLeft_l1 xs (mergeF o a b) (fun y13 _ => some y13) m s i) (fun m i x s hx hsi => by
    have hi := ix_of hx
    have e1 : w64 ((s : Int) + 1) = ((s + 1 : Nat) : Int) := by rw [w64_id (by omega) (by omega)]; omega
    simp only [spec_MemoLeft_l1, jn, lt_of hx, gi_of hx, cond_true, Option.bind_some, l18Find_eq h, w64_ix hi (show (mergeF o a b).length ≤ maxi by unfold maxi; omega), openB, e1]
    cases x.Clash <;> cases (doneB xs x.Old x.One x.Two).2 <;> rfl) (fun m s => by simp only [spec_MemoLeft_l1, end_of, cond_false]) (by omega)]
  rfl
theorem iMemoLeft_eq (h : Bk.fit xs) (ho : Bk.fit o) (ha : Bk.fit a) (hb : Bk.fit b) : impl_MemoLeft xs o a b = some (leftB xs o a b) := by
  unfold impl_MemoLeft leftB mergeB
  simp only [jn, MemosOk_eq h, areTexts_eq ho ha hb, Option.bind_some]
  cases memosB xs
  case false => rfl
  cases ht : (textB o && (textB a && textB b))
  case false => rfl
  have ht' := ht
  simp only [Bool.and_eq_true] at ht'
  have lo := textB_len ht'.1
  have la := textB_len ht'.2.1
  have lb := textB_len ht'.2.2
  simp only [Bool.not_true, cond_false, Bool.and_self, cond_true, mergeOf_eq (show o.length ≤ 1000 by omega) (show a.length ≤ 1000 by omega) (show b.length ≤ 1000 by omega), Option.bind_some, fuel0]
  have hP := mergeF_PB2 (o := o) (a := a) (b := b) (by omega) (by omega) (by omega)
  have hn : (mergeF o a b).length ≤ 22 := Nat.le_trans hP.1 (by omega)
  rw [loop_count (xs := mergeF o a b) (p := openB xs) (Z := fun s => some s) (f := fun m s i => impl_MemoLeft_l1 xs (mergeF o a b) (fun y13 _ => some y13) m s i) (fun m i x s hx hsi => by
    have hi := ix_of hx
    have e1 : w64 ((s : Int) + 1) = ((s + 1 : Nat) : Int) := by rw [w64_id (by omega) (by omega)]; omega
    simp only [impl_MemoLeft_l1, jn, lt_of hx, gi_of hx, cond_true, Option.bind_some, done_eq h, w64_ix hi (show (mergeF o a b).length ≤ maxi by unfold maxi; omega), openB, e1]
    cases x.Clash <;> cases (doneB xs x.Old x.One x.Two).2 <;> rfl) (fun m s => by simp only [impl_MemoLeft_l1, end_of, cond_false]) (by omega)]
  rfl
/-- One part more of a text. -/
def stepT (xs : List Memo) (s : List Str) (p : Part) : Option (List Str) :=
  bif p.Clash then (bif (doneB xs p.Old p.One p.Two).2 then some (s ++ (doneB xs p.Old p.One p.Two).1) else none) else some (s ++ p.Lines)
def okT (t : List Str) : List Str × Bool := bif textB t then (t, true) else ([], false)
def textT (xs : List Memo) (o a b : List Str) : List Str × Bool := match (mergeF o a b).foldlM (stepT xs) [] with
  | some t => okT t
  | none => ([], false)
def memoT (xs : List Memo) (o a b : List Str) : List Str × Bool := bif mergeB xs o a b then textT xs o a b else ([], false)
theorem memosB_at (h : memosB xs = true) {m : Memo} (hm : m ∈ xs) : textB m.Old = true ∧ textB m.One = true ∧ textB m.Two = true ∧ textB m.Done = true := by
  unfold memosB at h
  simp only [Bool.and_eq_true, allN_iff] at h
  obtain ⟨i, hi⟩ := List.getElem?_of_mem hm
  have := h.2 i (Nat.zero_le _) (by have := ix_of hi; omega)
  rw [hi] at this
  simp only [okB, Bool.and_eq_true] at this
  exact ⟨this.1, this.2.1, this.2.2.1, this.2.2.2.1⟩
theorem doneB_text (h : memosB xs = true) : textB (doneB xs o a b).1 = true := by
  unfold doneB
  split
  · rename_i m hm
    exact (memosB_at h (List.mem_of_find?_eq_some hm)).2.2.2
  · rfl
def InvT (i : Nat) (s : List Str) : Prop := s.length ≤ 22000 * i ∧ ∀ x ∈ s, lineB x = true
theorem stepT_inv (h : memosB xs = true) {i : Nat} {s s' : List Str} {p : Part} (hp : p.Lines.length ≤ 22000) (hpl : ∀ x ∈ p.Lines, lineB x = true) (hI : InvT i s) (hst : stepT xs s p = some s') : InvT (i + 1) s' := by
  unfold stepT at hst
  obtain ⟨h1, h2⟩ := hI
  cases hc : p.Clash with
  | false =>
    rw [hc, cond_false] at hst
    cases hst
    exact ⟨by simp; omega, fun x hx => (List.mem_append.1 hx).elim (h2 x) (hpl x)⟩
  | true =>
    rw [hc, cond_true] at hst
    cases hd : (doneB xs p.Old p.One p.Two).2 with
    | false => rw [hd] at hst; cases hst
    | true =>
      rw [hd] at hst
      cases hst
      have ht := doneB_text (o := p.Old) (a := p.One) (b := p.Two) h
      have := textB_len ht
      exact ⟨by simp; omega, fun x hx => (List.mem_append.1 hx).elim (h2 x) (textB_line ht x)⟩
theorem fit_lines {s : List Str} (h : s.length ≤ 1000000) (hl : ∀ x ∈ s, lineB x = true) : Bk.fit s := ⟨by unfold maxi; omega, fun x hx => by have := lineB_len (hl x hx); show x.length ≤ maxi; unfold maxi; omega⟩
theorem apT {s t : List Str} (h : s.length ≤ 1000000) (h' : t.length ≤ 1000000) : apM s t = some (s ++ t) := apM_of (by simp [lim]; omega)
theorem parts_inv (hto : textB o = true) (hta : textB a = true) (htb : textB b = true) : (mergeF o a b).length ≤ 22 ∧ ∀ p ∈ mergeF o a b, p.Lines.length ≤ 22000 ∧ (∀ x ∈ p.Lines, lineB x = true) ∧ textB p.Old = true ∧ textB p.One = true ∧ textB p.Two = true := by
  have lo := textB_len hto
  have la := textB_len hta
  have lb := textB_len htb
  have hP := mergeF_PB2 (o := o) (a := a) (b := b) (by omega) (by omega) (by omega)
  refine ⟨Nat.le_trans hP.1 (by omega), fun p hp => ?_⟩
  obtain ⟨h1, h2, h3, h4, h5, h6, h7⟩ := mergeF_lines (P := fun s => lineB s = true) (textB_line hto) (textB_line hta) (textB_line htb) p hp
  have hl := hP.2 p hp
  have mk : ∀ t : List Str, t.length ≤ 10 → (∀ s ∈ t, lineB s = true) → textB t = true := fun t h1 h2 => by
    unfold textB
    rw [decide_eq_false (by omega)]
    simp only [Bool.not_false, Bool.true_and, List.all_eq_true]
    exact h2
  exact ⟨by omega, h1, mk _ (by omega) h2, mk _ (by omega) h3, mk _ (by omega) h4⟩
theorem sMemoText_eq (h : Bk.fit xs) (ho : Bk.fit o) (ha : Bk.fit a) (hb : Bk.fit b) : spec_MemoText xs o a b = some (memoT xs o a b) := by
  unfold spec_MemoText memoT mergeB
  simp only [jn, l18Ok_eq h, l1Ok_eq ho, l1Ok_eq ha, l1Ok_eq hb, Option.bind_some]
  cases hmx : memosB xs
  case false => rfl
  cases hto : textB o
  case false => rfl
  cases hta : textB a
  case false => rfl
  cases htb : textB b
  case false => rfl
  have lo := textB_len hto
  have la := textB_len hta
  have lb := textB_len htb
  obtain ⟨hn, hq⟩ := parts_inv hto hta htb
  simp only [Bool.not_true, cond_false, Bool.and_self, cond_true, l3Of_eq (show o.length ≤ 1000 by omega) (show a.length ≤ 1000 by omega) (show b.length ≤ 1000 by omega), Option.bind_some, fuel0]
  rw [(loop_foldM (xs := mergeF o a b) (step := stepT xs) (r0 := some ([], false)) InvT (Z := fun s => some (okT s)) (s0 := []) (f := fun m s i => spec_MemoText_l1 xs (mergeF o a b) (fun y17 y20 y21 _ => (spec_l1Ok y21).bind fun z101 => bif (!z101) then (some (([] : List Str), false)) else (some (y21, true))) m [] false s i) (fun m i x s hx hI => by
    have hi := ix_of hx
    obtain ⟨q1, q2, q3, q4, q5⟩ := hq x (List.mem_of_getElem? hx)
    refine ⟨?_, fun s' hs' => stepT_inv hmx q1 q2 hI hs'⟩
    have hs1 : s.length ≤ 1000000 := by have := hI.1; omega
    have hd1 := textB_len (doneB_text (o := x.Old) (a := x.One) (b := x.Two) hmx)
    simp only [spec_MemoText_l1, jn, lt_of hx, gi_of hx, cond_true, Option.bind_some, l18Find_eq h, w64_ix hi (show (mergeF o a b).length ≤ maxi by unfold maxi; omega), stepT, apT hs1 (show x.Lines.length ≤ 1000000 by omega), apT hs1 (show (doneB xs x.Old x.One x.Two).1.length ≤ 1000000 by omega)]
    cases x.Clash <;> cases (doneB xs x.Old x.One x.Two).2 <;> rfl) (fun m s hI => by
    simp only [spec_MemoText_l1, end_of, cond_false, okT]
    rw [l1Ok_eq (fit_lines (by have := hI.1; omega) hI.2), Option.bind_some]
    cases textB s <;> rfl) (by omega) ⟨by simp, by simp⟩).1]
  unfold textT
  cases (mergeF o a b).foldlM (stepT xs) [] <;> rfl
theorem iMemoText_eq (h : Bk.fit xs) (ho : Bk.fit o) (ha : Bk.fit a) (hb : Bk.fit b) : impl_MemoText xs o a b = some (memoT xs o a b) := by
  unfold impl_MemoText memoT mergeB impl_merged_at73
  simp only [jn, MemosOk_eq h, areTexts_eq ho ha hb, Option.bind_some]
  cases hmx : memosB xs
  case false => rfl
  cases ht : (textB o && (textB a && textB b))
  case false => rfl
  have ht' := ht
  simp only [Bool.and_eq_true] at ht'
  obtain ⟨hto, hta, htb⟩ := ht'
  have lo := textB_len hto
  have la := textB_len hta
  have lb := textB_len htb
  obtain ⟨hn, hq⟩ := parts_inv hto hta htb
  simp only [Bool.not_true, cond_false, Bool.and_self, cond_true, mergeOf_eq (show o.length ≤ 1000 by omega) (show a.length ≤ 1000 by omega) (show b.length ≤ 1000 by omega), Option.bind_some, fuel0]
  rw [(loop_foldM (xs := mergeF o a b) (step := stepT xs) (r0 := some ([], false)) InvT (Z := fun s => some (okT s)) (s0 := []) (f := fun m s i => impl_merged_at73_l1 xs (mergeF o a b) (fun y19 y22 y23 _ => (impl_TextOk y23).bind fun z99 => bif (!z99) then (some (([] : List Str), false)) else (some (y23, true))) m [] false s i) (fun m i x s hx hI => by
    have hi := ix_of hx
    obtain ⟨q1, q2, q3, q4, q5⟩ := hq x (List.mem_of_getElem? hx)
    refine ⟨?_, fun s' hs' => stepT_inv hmx q1 q2 hI hs'⟩
    have hs1 : s.length ≤ 1000000 := by have := hI.1; omega
    have hd1 := textB_len (doneB_text (o := x.Old) (a := x.One) (b := x.Two) hmx)
    simp only [impl_merged_at73_l1, impl_MemoText_c1, jn, lt_of hx, gi_of hx, cond_true, Option.bind_some, done_eq h, w64_ix hi (show (mergeF o a b).length ≤ maxi by unfold maxi; omega), stepT, apT hs1 (show x.Lines.length ≤ 1000000 by omega), apT hs1 (show (doneB xs x.Old x.One x.Two).1.length ≤ 1000000 by omega)]
    cases x.Clash <;> cases (doneB xs x.Old x.One x.Two).2 <;> rfl) (fun m s hI => by
    simp only [impl_merged_at73_l1, end_of, cond_false, okT]
    rw [TextOk_eq (fit_lines (by have := hI.1; omega) hI.2), Option.bind_some]
    cases textB s <;> rfl) (by omega) ⟨by simp, by simp⟩).1]
  unfold textT
  cases (mergeF o a b).foldlM (stepT xs) [] <;> rfl
theorem memoT_len : (memoT xs o a b).1.length ≤ 10 := by
  unfold memoT
  cases mergeB xs o a b
  · simp
  · rw [cond_true]
    unfold textT
    split
    · rename_i t _
      unfold okT
      cases ht : textB t
      · simp
      · exact textB_len ht
    · simp
end
end Go.Vm
