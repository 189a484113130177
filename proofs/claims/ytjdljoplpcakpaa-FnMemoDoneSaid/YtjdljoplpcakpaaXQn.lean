/- Plain law: FnMemoDone: clashes that became one side's read as that side has them. Conditions: each law's own premises. -/
import Derived.Test.YtjdljoplpcakpaaXQm
namespace Go.Vm
open Go Go.Sx
set_option linter.unusedSimpArgs false
set_option linter.unusedVariables false

def mkM1 (p : Part) : Memo := ⟨p.Old, p.One, p.Two, p.One⟩
section
variable {o a b : List Str} {xs : List Memo}
theorem sameB_sym {q m : Memo} (h : sameB q m.Old m.One m.Two = true) : sameB m q.Old q.One q.Two = true := by
  unfold sameB at *
  simp only [Bool.and_eq_true, Bool.or_eq_true, beq_iff_eq] at *
  obtain ⟨h1, h2⟩ := h
  refine ⟨h1.symm, ?_⟩
  rcases h2 with ⟨e1, e2⟩ | ⟨e1, e2⟩
  · exact .inl ⟨e1.symm, e2.symm⟩
  · exact .inr ⟨e2.symm, e1.symm⟩
/-- Of memos that are ok no two are of one clash. -/
theorem memosB_apart (h : memosB xs = true) {i j : Nat} {p q : Memo} (hij : i < j) (hp : xs[i]? = some p) (hq : xs[j]? = some q) : sameB p q.Old q.One q.Two = false := by
  unfold memosB at h
  simp only [Bool.and_eq_true, allN_iff] at h
  have := h.2 j (Nat.zero_le _) (by have := ix_of hq; omega)
  rw [hq] at this
  simp only [okB, Bool.and_eq_true, List.all_eq_true, Bool.not_eq_true'] at this
  exact this.2.2.2.2.2 p (List.mem_of_getElem? (i := i) (by rw [List.getElem?_take_of_lt hij]; exact hp))
theorem count_one : ∀ {l : List Memo} {m : Memo}, (∀ (i j : Nat) p q, i < j → l[i]? = some p → l[j]? = some q → sameB p q.Old q.One q.Two = false) → l.length ≤ (l.filter (keepB m)).length + 1
  | [], m, _ => by simp
  | x :: l, m, h => by
    have hl : ∀ (i j : Nat) p q, i < j → l[i]? = some p → l[j]? = some q → sameB p q.Old q.One q.Two = false := fun i j p q hij hp hq => h (i + 1) (j + 1) p q (by omega) (by simpa using hp) (by simpa using hq)
    rw [List.filter_cons]
    cases hk : keepB m x with
    | true =>
      have := count_one (m := m) hl
      rw [if_pos rfl]
      simp only [List.length_cons]
      omega
    | false =>
      rw [if_neg (by simp)]
      have hall : l.filter (keepB m) = l := by
        rw [List.filter_eq_self]
        intro y hy
        obtain ⟨j, hj⟩ := List.getElem?_of_mem hy
        have h0 := h 0 (j + 1) x y (by omega) rfl (by simpa using hj)
        cases hky : keepB m y with
        | true => rfl
        | false =>
          exfalso
          unfold keepB at hk hky
          simp only [Bool.not_eq_false'] at hk hky
          have h1 := sameB_sym hky
          have h2 : sameB m x.Old x.One x.Two = true := sameB_sym hk
          have h3 : sameB x y.Old y.One y.Two = true := sameB_trans (q := m) h1 h2
          rw [h0] at h3; cases h3
      rw [hall]
      simp
theorem putL_new {m : Memo} (h : memosB xs = true) (hl : (putL xs m).length ≠ xs.length) : putL xs m = xs ++ [m] := by
  have h1 := count_one (m := m) (fun i j p q hij hp hq => memosB_apart h hij hp hq)
  have h2 := List.length_filter_le (keepB m) xs
  have h3 : (xs.filter (keepB m)).length = xs.length := by
    simp only [putL, List.length_append, List.length_cons, List.length_nil] at hl
    omega
  have : xs.filter (keepB m) = xs := by
    rw [List.filter_eq_self]
    exact List.length_filter_eq_length_iff.1 h3
  unfold putL
  rw [this]
theorem find_mk {l : List Part} (h : memosB (l.map mkM1) = true) {p : Part} (hp : p ∈ l) : doneB (l.map mkM1) p.Old p.One p.Two = (p.One, true) := by
  unfold doneB
  cases hf : (l.map mkM1).find? (fun m => sameB m p.Old p.One p.Two) with
  | none =>
    rw [List.find?_eq_none] at hf
    exact absurd (by simp [sameB, mkM1]) (hf (mkM1 p) (List.mem_map.2 ⟨p, hp, rfl⟩))
  | some m =>
    have hm := List.mem_of_find?_eq_some hf
    have hs : sameB m p.Old p.One p.Two = true := by simpa using List.find?_some hf
    obtain ⟨i, hi⟩ := List.getElem?_of_mem hm
    obtain ⟨j, hj⟩ := List.getElem?_of_mem (List.mem_map.2 ⟨p, hp, rfl⟩ : mkM1 p ∈ l.map mkM1)
    have hij : i = j := by
      rcases Nat.lt_trichotomy i j with h1 | h1 | h1
      · have := memosB_apart h h1 hi hj
        rw [show (mkM1 p).Old = p.Old from rfl, show (mkM1 p).One = p.One from rfl, show (mkM1 p).Two = p.Two from rfl, hs] at this
        cases this
      · exact h1
      · have := memosB_apart h h1 hj hi
        have h2 : sameB (mkM1 p) m.Old m.One m.Two = true := sameB_sym hs
        rw [h2] at this; cases this
    subst hij
    rw [hi] at hj
    have e := Option.some.inj hj
    rw [e]
    rfl
/-- A text as one side has it. -/
def sideT (s : List Str) (p : Part) : Option (List Str) := some (s ++ bif p.Clash then p.One else p.Lines)
theorem side_inv {i : Nat} {s s' : List Str} {p : Part} (hp : p.Lines.length ≤ 22000) (hpl : ∀ x ∈ p.Lines, lineB x = true) (h1 : textB p.One = true) (hI : InvT i s) (hst : sideT s p = some s') : InvT (i + 1) s' := by
  unfold sideT at hst
  cases hst
  obtain ⟨h2, h3⟩ := hI
  have := textB_len h1
  cases p.Clash with
  | true => exact ⟨by simp; omega, fun x hx => (List.mem_append.1 hx).elim (h3 x) (textB_line h1 x)⟩
  | false => exact ⟨by simp; omega, fun x hx => (List.mem_append.1 hx).elim (h3 x) (hpl x)⟩
def sideR (o a b : List Str) : List Str × Bool := match (mergeF o a b).foldlM sideT [] with
  | some t => okT t
  | none => ([], false)
theorem MergeSide_eq (ho : Bk.fit o) (ha : Bk.fit a) (hb : Bk.fit b) (hto : textB o = true) (hta : textB a = true) (htb : textB b = true) : impl_MergeSide o a b 1 = some (sideR o a b) := by
  have lo := textB_len hto
  have la := textB_len hta
  have lb := textB_len htb
  obtain ⟨hn, hq⟩ := parts_inv hto hta htb
  have hw : impl_within 1 0 2 = some true := by decide
  unfold impl_MergeSide impl_merged_at75
  simp only [hw, Option.bind_some, Bool.not_true, cond_false, areTexts_eq ho ha hb, hto, hta, htb, Bool.and_self, jn, mergeOf_eq (show o.length ≤ 1000 by omega) (show a.length ≤ 1000 by omega) (show b.length ≤ 1000 by omega), fuel0]
  rw [(loop_foldM (xs := mergeF o a b) (step := sideT) (r0 := some ([], false)) InvT (Z := fun s => some (okT s)) (s0 := []) (f := fun m s i => impl_merged_at75_l1 1 (mergeF o a b) (fun y19 y22 y23 _ => (impl_TextOk y23).bind fun z98 => bif (!z98) then (some (([] : List Str), false)) else (some (y23, true))) m [] false s i) (fun m i x s hx hI => by
    have hi := ix_of hx
    obtain ⟨q1, q2, q3, q4, q5⟩ := hq x (List.mem_of_getElem? hx)
    refine ⟨?_, fun s' hs' => side_inv q1 q2 q4 hI hs'⟩
    have hs1 : s.length ≤ 1000000 := by have := hI.1; omega
    have h1 := textB_len q4
    have hg : gi [x.Old, x.One, x.Two] 1 = some x.One := rfl
    simp only [impl_merged_at75_l1, impl_MergeSide_c1, jn, lt_of hx, gi_of hx, cond_true, Option.bind_some, hg, w64_ix hi (show (mergeF o a b).length ≤ maxi by unfold maxi; omega), sideT, apT hs1 (show x.Lines.length ≤ 1000000 by omega), apT hs1 (show x.One.length ≤ 1000000 by omega), Bool.not_true, cond_false]
    cases x.Clash <;> rfl) (fun m s hI => by
    simp only [impl_merged_at75_l1, end_of, cond_false, okT]
    rw [TextOk_eq (fit_lines (by have := hI.1; omega) hI.2), Option.bind_some]
    cases textB s <;> rfl) (by omega) ⟨by simp, by simp⟩).1]
  unfold sideR
  cases (mergeF o a b).foldlM sideT [] <;> rfl
theorem fold_side {xs : List Memo} : ∀ {l : List Part} (s : List Str), (∀ p ∈ l, p.Clash = true → doneB xs p.Old p.One p.Two = (p.One, true)) → l.foldlM (stepT xs) s = l.foldlM sideT s
  | [], s, _ => rfl
  | p :: l, s, h => by
    rw [List.foldlM_cons, List.foldlM_cons]
    have : stepT xs s p = sideT s p := by
      unfold stepT sideT
      cases hc : p.Clash with
      | true => rw [h p (by simp) hc]; rfl
      | false => rfl
    rw [this]
    cases sideT s p with
    | none => rfl
    | some t => exact fold_side (l := l) t (fun q hq => h q (by simp [hq]))
theorem putB_ok {m : Memo} (h : (putB xs m).2 = true) : memosB xs = true ∧ memosB (putL xs m) = true ∧ (putB xs m).1 = putL xs m := by
  unfold putB at *
  cases h1 : memosB xs with
  | false => rw [h1] at h; cases h
  | true =>
    rw [h1, cond_true] at h
    cases h2 : memosB (putL xs m) with
    | false => rw [h2] at h; cases h
    | true => exact ⟨rfl, rfl, rfl⟩
def clashes (l : List Part) : List Part := l.filter (·.Clash)
theorem done_l1 {ps : List Part} (hn : ps.length ≤ 22) (hps : ∀ p ∈ ps, LB 40 p.Old ∧ LB 40 p.One ∧ LB 40 p.Two) {K : Bool → List Memo → Int → Option Bool}
    (hK : ∀ z i, memosB ((clashes ps).map mkM1) = true → Bk.fit ((clashes ps).map mkM1) → K z ((clashes ps).map mkM1) i = some true) : ∀ (n i m : Nat), i + n = ps.length → n < m →
    memosB ((clashes (ps.take i)).map mkM1) = true → Bk.fit ((clashes (ps.take i)).map mkM1) → Bk.bulk ((clashes (ps.take i)).map mkM1) ≤ 21000 * i →
    laws_FnMemoDone_l1 ps K m false ((clashes (ps.take i)).map mkM1) (i : Int) = some true
  | n, i, 0, _, hm, _, _, _ => by omega
  | 0, i, m + 1, hi, _, hm, hf, hb => by
    simp only [laws_FnMemoDone_l1]
    rw [decide_eq_false (by omega), cond_false]
    have : ps.take i = ps := List.take_of_length_le (by omega)
    rw [this] at hm hf ⊢
    exact hK _ _ hm hf
  | n + 1, i, m + 1, hi, hm, hmx, hf, hb => by
    obtain ⟨x, hx⟩ : ∃ x, ps[i]? = some x := ⟨_, List.getElem?_eq_getElem (by omega)⟩
    have ei : w64 ((i : Int) + 1) = ((i + 1 : Nat) : Int) := by rw [w64_id (by omega) (by omega)]; omega
    have htk : ps.take (i + 1) = ps.take i ++ [x] := by rw [List.take_add_one, hx]; rfl
    simp only [laws_FnMemoDone_l1, jn, gi_of hx, Option.bind_some, ei]
    rw [decide_eq_true (by omega), cond_true]
    cases hc : x.Clash with
    | false =>
      rw [cond_false]
      have he : clashes (ps.take (i + 1)) = clashes (ps.take i) := by
        unfold clashes
        rw [htk, List.filter_append]
        simp [hc]
      have := done_l1 hn hps hK n (i + 1) m (by omega) (by omega) (by rw [he]; exact hmx) (by rw [he]; exact hf) (by rw [he]; omega)
      rw [he] at this
      exact this
    | true =>
      obtain ⟨l1, l2, l3⟩ := hps x (List.mem_of_getElem? hx)
      have h2 := l2.bulk
      obtain ⟨fm, bm⟩ := memo_fit l1 l2 l3 (l2.fit (by omega)) (by omega)
      rw [cond_true, iMemoPut_eq hf fm (by omega) (by omega), Option.bind_some]
      have hcl : clashes (ps.take (i + 1)) = clashes (ps.take i) ++ [x] := by
        unfold clashes
        rw [htk, List.filter_append]
        simp [hc]
      cases hok : (putB ((clashes (ps.take i)).map mkM1) ⟨x.Old, x.One, x.Two, x.One⟩).2 with
      | false => rfl
      | true =>
        obtain ⟨_, hm2, he⟩ := putB_ok hok
        rw [Bool.not_true, cond_false]
        simp only [he]
        by_cases hl : (putL ((clashes (ps.take i)).map mkM1) ⟨x.Old, x.One, x.Two, x.One⟩).length = ((clashes (ps.take i)).map mkM1).length
        · rw [show (((putL ((clashes (ps.take i)).map mkM1) ⟨x.Old, x.One, x.Two, x.One⟩).length : Int) == (((clashes (ps.take i)).map mkM1).length : Int)) = true by rw [hl]; simp]
          rfl
        · rw [show (((putL ((clashes (ps.take i)).map mkM1) ⟨x.Old, x.One, x.Two, x.One⟩).length : Int) == (((clashes (ps.take i)).map mkM1).length : Int)) = false by simp only [beq_eq_false_iff_ne, ne_eq]; omega, cond_false]
          have hnew := putL_new hmx hl
          have hmap : (clashes (ps.take (i + 1))).map mkM1 = putL ((clashes (ps.take i)).map mkM1) ⟨x.Old, x.One, x.Two, x.One⟩ := by
            rw [hcl, List.map_append, hnew]; rfl
          have hbk : Bk.bulk ((clashes (ps.take (i + 1))).map mkM1) ≤ 21000 * (i + 1) := by
            rw [hmap, hnew, bulkL, sumB_app, List.length_append]
            rw [bulkL] at hb
            simp only [sumB, List.length_cons, List.length_nil]
            omega
          have hfit : Bk.fit ((clashes (ps.take (i + 1))).map mkM1) := by
            rw [hmap]
            exact putL_fit hf fm (bulk_len (show Bk.bulk ((clashes (ps.take i)).map mkM1) ≤ 1048576 by omega))
          have := done_l1 hn hps hK n (i + 1) m (by omega) (by omega) (by rw [hmap]; exact hm2) hfit hbk
          rw [hmap] at this
          exact this
end
theorem part_beq (x y : Part) : (x == y) = (x.Clash == y.Clash && (x.Lines == y.Lines && (x.Old == y.Old && (x.One == y.One && x.Two == y.Two)))) := by
  obtain ⟨a, b, c, d, e⟩ := x
  obtain ⟨a', b', c', d', e'⟩ := y
  have hb : ∀ b c : Bool, (b = true ↔ c = true) → b = c := by decide
  apply hb
  simp
theorem smParts_eq {xs ys : List Part} (hl : xs.length ≤ 1000000) (h : ∀ p ∈ xs, p.Lines.length ≤ 1000000 ∧ p.Old.length ≤ 1000000 ∧ p.One.length ≤ 1000000 ∧ p.Two.length ≤ 1000000) : laws_smParts xs ys = some (xs == ys) := by
  have hm : xs.length ≤ maxi := by unfold maxi; omega
  unfold laws_smParts
  simp only [bne_len, jn, fuel0]
  by_cases hn : xs.length = ys.length
  · rw [hn, beq_self_eq_true, Bool.not_true, cond_false, ← hn]
    rw [loop_eq (α := Part) (r0 := some false) (Z := some true) (f := fun m i => laws_smParts_l1 xs ys (fun _ _ => some true) m false i) hn (fun m i x y hx hy => by
      obtain ⟨f1, f2, f3, f4⟩ := h x (List.mem_of_getElem? hx)
      simp only [laws_smParts_l1, jn, lt_of hx, gi_of hx, gi_of hy, cond_true, Option.bind_some, smTexts_eq (show x.Lines.length ≤ maxi by unfold maxi; omega), smTexts_eq (show x.Old.length ≤ maxi by unfold maxi; omega), smTexts_eq (show x.One.length ≤ maxi by unfold maxi; omega), smTexts_eq (show x.Two.length ≤ maxi by unfold maxi; omega), w64_ix (ix_of hx) hm, part_beq, bne]
      cases x.Clash == y.Clash <;> cases x.Lines == y.Lines <;> cases x.Old == y.Old <;> cases x.One == y.One <;> cases x.Two == y.Two <;> rfl) (fun m => by simp only [laws_smParts_l1, end_of, cond_false]) (by omega)]
    cases xs == ys <;> rfl
  · rw [beq_false_of_ne hn, Bool.not_false, cond_true, beq_false_of_ne (fun e => hn (by rw [e]))]
theorem FnMemoDone_eq {code : List Byte} (h : Bk.fit code) : laws_FnMemoDone code = some true := by
  unfold laws_FnMemoDone
  by_cases hc : (1048576 : Int) < (code.length : Int)
  · rw [decide_eq_true hc]; rfl
  rw [decide_eq_false hc, cond_false]
  obtain ⟨o, a, b, hd, lo, la, lb⟩ := three_eq (code := code) (by omega)
  have fo := lo.fit (by omega)
  have fa := la.fit (by omega)
  have fb := lb.fit (by omega)
  rw [hd, Option.bind_some]
  simp only [iMergeOf_eq fo fa fb, sMergeOf_eq fo fa fb, Option.bind_some, jn, MergeClash_eq fo fa fb, fuel0]
  cases ht : (textB o && (textB a && textB b)) with
  | false =>
    have hcl : leftB [] o a b = -1 := by unfold leftB mergeB; rw [memosB_nil, ht]; rfl
    rw [cond_false, smParts_eq (by simp) (by simp), Option.bind_some, hcl]
    rfl
  | true =>
    have ht' := ht
    simp only [Bool.and_eq_true] at ht'
    obtain ⟨hto, hta, htb⟩ := ht'
    obtain ⟨hn, hq⟩ := parts_inv hto hta htb
    have hcl : ¬ leftB [] o a b < 0 := by unfold leftB mergeB; rw [memosB_nil, ht]; simp only [Bool.and_self, cond_true]; omega
    have hsm : laws_smParts (mergeF o a b) (mergeF o a b) = some true := by
      rw [smParts_eq (by omega) (fun p hp => by
        obtain ⟨q1, q2, q3, q4, q5⟩ := hq p hp
        have := textB_len q3; have := textB_len q4; have := textB_len q5
        omega), beq_self_eq_true]
    rw [cond_true, hsm, Option.bind_some, Bool.not_true, cond_false, decide_eq_false hcl, cond_false]
    refine done_l1 hn (fun p hp => part_lb hto hta htb hp) (fun z i hm hf => ?_) (mergeF o a b).length 0 _ (by omega) (by omega) rfl fitN (by simp [clashes, bulkL, sumB])
    rw [iMemoText_eq hf fo fa fb, Option.bind_some, MergeSide_eq fo fa fb hto hta htb, Option.bind_some]
    have he : memoT ((clashes (mergeF o a b)).map mkM1) o a b = sideR o a b := by
      unfold memoT mergeB textT sideR
      rw [hm, ht]
      simp only [Bool.and_self, cond_true]
      rw [fold_side [] (fun p hp hpc => find_mk hm (List.mem_filter.2 ⟨hp, hpc⟩))]
      cases (mergeF o a b).foldlM sideT [] <;> rfl
    have hlen := memoT_len (xs := (clashes (mergeF o a b)).map mkM1) (o := o) (a := a) (b := b)
    rw [he] at hlen ⊢
    rw [beq_self_eq_true, cond_true, smTexts_eq (by unfold maxi; omega), beq_self_eq_true]
    rfl
end Go.Vm
