/- Plain laws: FnMemoText, FnMemoLeft. Conditions: each law's own premises. -/
import Derived.Test.YtjdljoplpcakpaaXQl
namespace Go.Vm
open Go Go.Sx
set_option linter.unusedSimpArgs false
set_option linter.unusedVariables false

/-- A memo of two short texts. -/
theorem memo_fit {o a b d : List Str} (ho : LB 40 o) (ha : LB 40 a) (hb : LB 40 b) (hd : Bk.fit d) (hd2 : Bk.bulk d ≤ 5000) : Bk.fit (⟨o, a, b, d⟩ : Memo) ∧ Bk.bulk (⟨o, a, b, d⟩ : Memo) ≤ 20000 := by
  have h1 := ho.bulk
  have h2 := ha.bulk
  have h3 := hb.bulk
  refine ⟨⟨ho.fit (by omega), ha.fit (by omega), hb.fit (by omega), hd⟩, ?_⟩
  rw [bulkM]
  show Bk.bulk o + (Bk.bulk a + (Bk.bulk b + Bk.bulk d)) ≤ 20000
  omega
theorem lb_text {t : List Str} (h : textB t = true) : LB 40 t := ⟨by have := textB_len h; omega, fun s hs => by have := lineB_len (textB_line h s hs); omega⟩
section
variable {o a b : List Str}
theorem part_lb (hto : textB o = true) (hta : textB a = true) (htb : textB b = true) {p : Part} (hp : p ∈ mergeF o a b) : LB 40 p.Old ∧ LB 40 p.One ∧ LB 40 p.Two := by
  obtain ⟨_, hq⟩ := parts_inv hto hta htb
  obtain ⟨_, _, h1, h2, h3⟩ := hq p hp
  exact ⟨lb_text h1, lb_text h2, lb_text h3⟩
theorem draw_l1 {c : List Byte} {ps : List Part} (hps : ∀ p ∈ ps, LB 40 p.Old ∧ LB 40 p.One ∧ LB 40 p.Two) (hn : ps.length ≤ 22) : ∀ (n i m : Nat) (xs : List Memo) (q p : Int), i + n = ps.length → n < m → Bk.fit xs → Bk.bulk xs ≤ 1000 + 21000 * i → RdOk ⟨c, q⟩ p → p + 2 * n ≤ 1000000 →
    ∃ ys, spec_DrawMemoText_l1 ps (fun y40 _ _ _ => some (y40, o, a, b)) m xs (i : Int) c q = some (ys, o, a, b) ∧ Bk.fit ys ∧ Bk.bulk ys ≤ 600000
  | n, i, 0, _, _, _, _, hm, _, _, _, _ => by omega
  | 0, i, m + 1, xs, q, p, hi, _, hf, hb, hr, hp => by
    simp only [spec_DrawMemoText_l1]
    rw [decide_eq_false (by omega), cond_false]
    exact ⟨xs, rfl, hf, by omega⟩
  | n + 1, i, m + 1, xs, q, p, hi, hm, hf, hbk, hr, hp => by
    obtain ⟨x, hx⟩ : ∃ x, ps[i]? = some x := ⟨_, List.getElem?_eq_getElem (by omega)⟩
    have ei : w64 ((i : Int) + 1) = ((i + 1 : Nat) : Int) := by rw [w64_id (by omega) (by omega)]; omega
    simp only [spec_DrawMemoText_l1, jn, gi_of hx, Option.bind_some, ei]
    rw [decide_eq_true (by omega), cond_true]
    cases hc : x.Clash with
    | false =>
      rw [cond_false, cond_false]
      exact draw_l1 hps hn n (i + 1) m xs q p (by omega) (by omega) hf (by omega) hr (by omega)
    | true =>
      obtain ⟨k, hk, k0, k1⟩ := pick_eq (n := 3) hr (by omega) (by omega) (by omega)
      have hk' : spec_l30Rd_pick ⟨c, q⟩ 3 = some (k, q + 1) := hk
      have hr1 := on1 hr (q := p + 1) (by omega)
      have hr1' : RdOk ⟨c, q + 1⟩ (p + 2) := ⟨hr1.1, hr1.2.1, by have : q + 1 ≤ p + 1 := hr1.2.2; show q + 1 ≤ p + 2; omega⟩
      rw [cond_true, hk', Option.bind_some]
      by_cases hk0 : 0 < k
      case neg =>
        rw [decide_eq_false hk0, cond_false]
        exact draw_l1 hps hn n (i + 1) m xs (q + 1) (p + 2) (by omega) (by omega) hf (by omega) hr1' (by omega)
      obtain ⟨d, hd, fd, bd⟩ := short_eq hr1 (by omega)
      have hd' : spec_l30Short ⟨c, q + 1⟩ = some (d, q + 1 + 1) := hd
      have hr2 := on1 hr1 (q := p + 2) (by omega)
      obtain ⟨l1, l2, l3⟩ := hps x (List.mem_of_getElem? hx)
      obtain ⟨fm, bm⟩ := memo_fit l1 l3 l2 fd (by omega)
      rw [decide_eq_true hk0, cond_true, hd', Option.bind_some, sMemoPut_eq hf fm (by omega) (by omega), Option.bind_some]
      have hbp := putB_bulk (xs := xs) (m := ⟨x.Old, x.Two, x.One, d⟩)
      have hfp := putB_fit hf fm (bulk_len (show Bk.bulk xs ≤ 1048576 by omega))
      cases (putB xs ⟨x.Old, x.Two, x.One, d⟩).2 with
      | true => exact draw_l1 hps hn n (i + 1) m _ (q + 1 + 1) (p + 2) (by omega) (by omega) hfp (by omega) hr2 (by omega)
      | false => exact draw_l1 hps hn n (i + 1) m xs (q + 1 + 1) (p + 2) (by omega) (by omega) hf (by omega) hr2 (by omega)
end
theorem drawText_eq {code : List Byte} (h : code.length ≤ 1048576) : ∃ xs o a b, spec_DrawMemoText code = some (xs, o, a, b) ∧ Bk.fit xs ∧ Bk.bulk xs ≤ 600000 ∧ LB 40 o ∧ LB 40 a ∧ LB 40 b := by
  obtain ⟨c, hc, hl⟩ := open_eq h
  have r0 : RdOk ⟨c, 0⟩ 0 := ⟨hl, by show (0 : Int) ≤ 0; omega, by show (0 : Int) ≤ 0; omega⟩
  obtain ⟨ms, q0, hms, fms, bms, r00⟩ := memos_eq r0 (by omega)
  obtain ⟨o, q1, ho, lo, r1⟩ := anyText_eq r00 (by omega)
  obtain ⟨a, q2, ha, la, r2⟩ := turn_eq r1 (by omega) lo (by omega)
  obtain ⟨b, q3, hb, lb, r3⟩ := turn_eq r2 (by omega) lo (by omega)
  have ho' : spec_l30AnyText ⟨c, q0⟩ = some (o, q1) := ho
  have ha' : spec_l30Turn ⟨c, q1⟩ o = some (a, q2) := ha
  have hb' : spec_l30Turn ⟨c, q2⟩ o = some (b, q3) := hb
  have mo : LB 40 o := lo.mono (by omega)
  have ma : LB 40 a := la.mono (by omega)
  have mb : LB 40 b := lb.mono (by omega)
  unfold spec_DrawMemoText
  rw [hc, Option.bind_some, hms, Option.bind_some]
  simp only [ho', Option.bind_some, ha', hb', sMergeOf_eq (mo.fit (by omega)) (ma.fit (by omega)) (mb.fit (by omega)), jn, fuel0]
  have hps : (∀ p ∈ (bif textB o && (textB a && textB b) then mergeF o a b else []), LB 40 p.Old ∧ LB 40 p.One ∧ LB 40 p.Two) ∧ (bif textB o && (textB a && textB b) then mergeF o a b else []).length ≤ 22 := by
    cases ht : (textB o && (textB a && textB b)) with
    | false => simp
    | true =>
      simp only [Bool.and_eq_true] at ht
      exact ⟨fun p hp => part_lb ht.1 ht.2.1 ht.2.2 hp, (parts_inv ht.1 ht.2.1 ht.2.2).1⟩
  obtain ⟨ys, e, f, bk⟩ := draw_l1 (o := o) (a := a) (b := b) hps.1 hps.2 _ 0 ((bif textB o && (textB a && textB b) then mergeF o a b else []).length + 1) ms q3 1000 (Nat.zero_add _) (by omega) fms (by omega) ⟨r3.1, r3.2.1, by have := r3.2.2; omega⟩ (by have := hps.2; omega)
  exact ⟨ys, o, a, b, e, f, bk, mo, ma, mb⟩
theorem FnMemoText_eq {code : List Byte} (h : Bk.fit code) : laws_FnMemoText code = some true := by
  unfold laws_FnMemoText
  by_cases hc : (1048576 : Int) < (code.length : Int)
  · rw [decide_eq_true hc]; rfl
  rw [decide_eq_false hc, cond_false]
  obtain ⟨xs, o, a, b, hd, fx, bx, lo, la, lb⟩ := drawText_eq (code := code) (by omega)
  have fo := lo.fit (by omega)
  have fa := la.fit (by omega)
  have fb := lb.fit (by omega)
  rw [hd, Option.bind_some]
  have hl : ∀ (zs : List Memo) (o a b : List Str), (memoT zs o a b).1.length ≤ maxi := fun zs o a b => by have := memoT_len (xs := zs) (o := o) (a := a) (b := b); unfold maxi; omega
  simp only [iMemoText_eq fx fo fa fb, sMemoText_eq fx fo fa fb, Option.bind_some, jn, bne_self_eq_false, cond_false, smTexts_eq (hl _ _ _ _), beq_self_eq_true, Bool.not_true, MergeClash_eq fo fa fb, MemosOk_eq fx,
    iMemoText_eq fx fo fb fa, memoT_swap, MergeText_eq fo fa fb, iMemoText_eq fitN fo fa fb, iMemoLeft_eq fx fo fa fb, cond_true]
  have key : ∀ c : Bool, memosB xs = true → ¬ leftB [] o a b < 0 → (bif !(memoT xs o a b).2 then bif decide (leftB xs o a b ≤ leftB [] o a b) then bif !(memoT [] o a b).2 then some true else bif (memoT xs o a b).2 then some ((memoT xs o a b).1 == (memoT [] o a b).1) else some false else some false
      else bif leftB xs o a b == 0 then bif decide (leftB xs o a b ≤ leftB [] o a b) then bif !(memoT [] o a b).2 then some true else bif (memoT xs o a b).2 then some ((memoT xs o a b).1 == (memoT [] o a b).1) else some false else some false else some false) = some true := by
    intro c hm hcl
    have hmb : mergeB xs o a b = mergeB [] o a b := by unfold mergeB; rw [hm, memosB_nil]
    have hle : leftB xs o a b ≤ leftB [] o a b := by
      unfold leftB
      rw [hmb]
      have := leftN_le (o := o) (a := a) (b := b) xs
      cases mergeB [] o a b
      · simp
      · simp only [cond_true]; omega
    rw [decide_eq_true hle]
    have hplain : (memoT [] o a b).2 = true → memoT xs o a b = memoT [] o a b := memoT_plain hm
    have hok : (memoT xs o a b).2 = true → leftB xs o a b = 0 := memoT_ok
    cases h1 : (memoT xs o a b).2 with
    | false =>
      cases h2 : (memoT [] o a b).2 with
      | false => rfl
      | true => rw [hplain h2, h2] at h1; cases h1
    | true =>
      rw [hok h1]
      cases h2 : (memoT [] o a b).2 with
      | false => rfl
      | true => rw [hplain h2]; simp
  by_cases hneg : leftB [] o a b < 0
  · rw [decide_eq_true hneg]; rfl
  rw [decide_eq_false hneg, cond_false]
  cases hm : memosB xs with
  | false => rfl
  | true =>
    have := key true hm hneg
    simp only [Bool.not_true, cond_false]
    exact this
theorem FnMemoLeft_eq {code : List Byte} (h : Bk.fit code) : laws_FnMemoLeft code = some true := by
  unfold laws_FnMemoLeft
  by_cases hc : (1048576 : Int) < (code.length : Int)
  · rw [decide_eq_true hc]; rfl
  rw [decide_eq_false hc, cond_false]
  obtain ⟨xs, o, a, b, hd, fx, bx, lo, la, lb⟩ := drawText_eq (code := code) (by omega)
  have fo := lo.fit (by omega)
  have fa := la.fit (by omega)
  have fb := lb.fit (by omega)
  have hdl : spec_DrawMemoLeft code = some (xs, o, a, b) := by unfold spec_DrawMemoLeft; rw [hd]; rfl
  rw [hdl, Option.bind_some]
  simp only [iMemoLeft_eq fx fo fa fb, sMemoLeft_eq fx fo fa fb, Option.bind_some, jn, bne_self_eq_false, cond_false, beq_self_eq_true, iMergeOf_eq fo fa fb, fuel0]
  by_cases hneg : leftB xs o a b < 0
  · rw [decide_eq_true hneg]; rfl
  rw [decide_eq_false hneg, cond_false]
  have hmb : mergeB xs o a b = true := by
    unfold leftB at hneg
    cases hm : mergeB xs o a b with
    | true => rfl
    | false => rw [hm] at hneg; exact absurd (show (-1 : Int) < 0 by omega) hneg
  have hmb' := hmb
  unfold mergeB at hmb'
  rw [Bool.and_eq_true] at hmb'
  obtain ⟨hmx, htt⟩ := hmb'
  have htt' := htt
  simp only [Bool.and_eq_true] at htt'
  obtain ⟨hto, hta, htb⟩ := htt'
  obtain ⟨hn, hq⟩ := parts_inv hto hta htb
  have hlv : leftB xs o a b = (leftN xs o a b : Int) := by unfold leftB; rw [hmb]; rfl
  rw [htt, cond_true]
  rw [loop_list (xs := mergeF o a b) (p := fun _ => true) (r0 := none) (Z := (impl_MemoLeft [] o a b).bind fun z152 => (impl_MergeClash o a b).bind fun z161 => bif z152 == z161 then (impl_MemoLeft xs o b a).bind fun z171 => some (z171 == leftB xs o a b) else some false)
    (f := fun m i => laws_FnMemoLeft_l1 (xs, o, a, b) (leftB xs o a b) (mergeF o a b) (fun _ _ => (impl_MemoLeft [] o a b).bind fun z152 => (impl_MergeClash o a b).bind fun z161 => bif z152 == z161 then (impl_MemoLeft xs o b a).bind fun z171 => some (z171 == leftB xs o a b) else some false) m false i) (fun m i x hx => by
    have hi := ix_of hx
    have hxm := List.mem_of_getElem? hx
    obtain ⟨l1, l2, l3⟩ := part_lb hto hta htb hxm
    obtain ⟨fm, bm⟩ := memo_fit (d := []) l1 l2 l3 ⟨by simp [maxi], by simp⟩ (by decide)
    simp only [laws_FnMemoLeft_l1, jn, lt_of hx, gi_of hx, cond_true, Option.bind_some, w64_ix hi (show (mergeF o a b).length ≤ maxi by unfold maxi; omega), iMemoPut_eq fx fm (by omega) (by omega)]
    cases hcl : x.Clash with
    | false => rfl
    | true =>
      simp only [Bool.not_true, cond_false]
      cases hok : (putB xs ⟨x.Old, x.One, x.Two, []⟩).2 with
      | false => rfl
      | true =>
        have hput : memosB (putL xs ⟨x.Old, x.One, x.Two, []⟩) = true ∧ putB xs ⟨x.Old, x.One, x.Two, []⟩ = (putL xs ⟨x.Old, x.One, x.Two, []⟩, true) := by
          unfold putB at *
          rw [hmx] at *
          cases hp : memosB (putL xs ⟨x.Old, x.One, x.Two, []⟩) with
          | true => exact ⟨rfl, rfl⟩
          | false => rw [hp] at hok; cases hok
        have fp := putB_fit fx fm (bulk_len (show Bk.bulk xs ≤ 1048576 by omega))
        rw [hput.2] at fp ⊢
        have hmp : mergeB (putL xs ⟨x.Old, x.One, x.Two, []⟩) o a b = true := by unfold mergeB; rw [hput.1, htt]; rfl
        have hlp : leftB (putL xs ⟨x.Old, x.One, x.Two, []⟩) o a b = (leftN (putL xs ⟨x.Old, x.One, x.Two, []⟩) o a b : Int) := by unfold leftB; rw [hmp]; rfl
        have h1 := left_put (o := o) (a := a) (b := b) xs ⟨x.Old, x.One, x.Two, []⟩
        simp only [cond_true, iMemoLeft_eq fp fo fa fb, Option.bind_some, hlp, hlv]
        rw [decide_eq_false (by omega), cond_false]
        by_cases hlen : (xs.length : Int) < ((putL xs ⟨x.Old, x.One, x.Two, []⟩).length : Int)
        · have h2 := left_less (o := o) (a := a) (b := b) (xs := xs) (d := []) hxm hcl (by omega)
          rw [decide_eq_true hlen, cond_true, decide_eq_false (by omega), cond_false]
        · rw [decide_eq_false hlen, cond_false]) (fun m => by simp only [laws_FnMemoLeft_l1, end_of, cond_false]) (by omega)]
  have hall : (mergeF o a b).all (fun _ => true) = true := by simp
  rw [hall, cond_true, iMemoLeft_eq fitN fo fa fb, Option.bind_some, MergeClash_eq fo fa fb, Option.bind_some, beq_self_eq_true, cond_true, iMemoLeft_eq fx fo fb fa, Option.bind_some, leftB_swap, beq_self_eq_true]
end Go.Vm
