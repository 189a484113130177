/- Plain law FnReviewYes: what is drawn, and who said yes. Conditions: the law's own premises. -/
import Derived.Test.YtjdljoplpcakpaaXQp
import Derived.Test.YtjdljoplpcakpaaXQk
namespace Go.Vm
open Go Go.Sx
set_option linter.unusedSimpArgs false
set_option linter.unusedVariables false

theorem smReview_eq {x y : Review} (h : x.Yes.length ≤ maxi) : laws_smReview x y = some (x == y) := by
  rw [review_beq]
  unfold laws_smReview
  simp only [jn, smTexts_eq h, Option.bind_some]
  cases (x.Branch == y.Branch) <;> cases (x.Into == y.Into) <;> cases (x.By == y.By) <;> rfl
theorem smHas_eq {xs : List Str} {s : Str} (h : xs.length ≤ maxi) : laws_smHas xs s = some (decide (s ∈ xs)) := by
  unfold laws_smHas
  simp only [jn, fuel0]
  rw [loop_list (α := Str) (xs := xs) (p := fun x => !(x == s)) (r0 := some true) (Z := some false) (f := fun m i => laws_smHas_l1 xs s (fun _ _ => some false) m false i) (fun m i x hx => by
    simp only [laws_smHas_l1, jn, lt_of hx, gi_of hx, cond_true, Option.bind_some, w64_ix (ix_of hx) h]
    cases x == s <;> rfl) (fun m => by simp only [laws_smHas_l1, end_of, cond_false]) (by omega)]
  by_cases hs : s ∈ xs
  · have : xs.all (fun x => !(x == s)) = false := by
      rw [Bool.eq_false_iff]
      intro h
      have := List.all_eq_true.1 h s hs
      simp at this
    rw [this, decide_eq_true hs]; rfl
  · have : xs.all (fun x => !(x == s)) = true := by
      rw [List.all_eq_true]
      intro x hx
      have : x ≠ s := fun e => hs (by rw [← e]; exact hx)
      simp [this]
    rw [this, decide_eq_false hs]; rfl

/-! ### What is drawn -/
def RB (n : Nat) (v : Review) : Prop := v.Branch.length ≤ 4 ∧ v.Into.length ≤ 4 ∧ v.By.length ≤ 4 ∧ LB n v.Yes
theorem RB.fit {n : Nat} {v : Review} (h : RB n v) (hn : n ≤ 1000) : Bk.fit v :=
  ⟨by have := h.1; show v.Branch.length ≤ maxi; unfold maxi; omega, by have := h.2.1; show v.Into.length ≤ maxi; unfold maxi; omega, by have := h.2.2.1; show v.By.length ≤ maxi; unfold maxi; omega, h.2.2.2.fit (by omega)⟩
theorem rev_l1 {x0 : l30Rd} {a b c : Str} {K : Int → Int → Str → Str → Str → List Str → Option (Review × Int)} : ∀ (n i m : Nat) (q p : Int) (l : List Str), i + n = 3 → n < m → RdOk ⟨x0.b, q⟩ p → p + n ≤ 1000000 → LB i l →
    ∃ l' q', spec_l30Review_l1 x0 K m (i : Int) q a b c l = K 3 q' a b c l' ∧ LB 3 l' ∧ RdOk ⟨x0.b, q'⟩ (p + n)
  | n, i, 0, _, _, _, _, hm, _, _, _ => by omega
  | 0, i, m + 1, q, p, l, hi, _, hr, hp, hl => by
    simp only [spec_l30Review_l1]
    obtain rfl : i = 3 := by omega
    exact ⟨l, q, rfl, hl, by simpa using hr⟩
  | n + 1, i, m + 1, q, p, l, hi, hm, hr, hp, hl => by
    simp only [spec_l30Review_l1, jn]
    have ei : w64 ((i : Int) + 1) = ((i + 1 : Nat) : Int) := by rw [w64_id (by omega) (by omega)]; omega
    obtain ⟨k, hk, k0, k1⟩ := pick_eq (n := 2) hr (by omega) (by omega) (by omega)
    have hk' : spec_l30Rd_pick ⟨x0.b, q⟩ 2 = some (k, q + 1) := hk
    have hr1 := on1 hr (q := p + 1) (by omega)
    rw [decide_eq_true (by simp; omega), cond_true, hk', Option.bind_some, ei]
    cases hk0 : (k == (0 : Int)) with
    | false =>
      rw [cond_false]
      obtain ⟨l', q', e, f, r⟩ := rev_l1 (x0 := x0) (a := a) (b := b) (c := c) (K := K) n (i + 1) m (q + 1) (p + 1) l (by omega) (by omega) hr1 (by omega) (hl.mono (by omega))
      exact ⟨l', q', e, f, by rw [show p + ((n + 1 : Nat) : Int) = p + 1 + n by omega]; exact r⟩
    | true =>
      obtain ⟨s, hs⟩ := gi_some' (xs := ([([97, 110, 110] : Str), ([98, 111, 98] : Str), ([99, 105, 100] : Str)] : List Str)) (i := (i : Int)) (by omega) (by simp; omega)
      have hsl : s.length ≤ 100 := by
        have := List.mem_of_getElem? (gi_some hs).2.1
        simp only [List.mem_cons, List.not_mem_nil, or_false] at this
        rcases this with rfl | rfl | rfl <;> simp
      have hll := hl.1
      rw [cond_true, hs, Option.bind_some, ap1 (by omega), Option.bind_some]
      obtain ⟨l', q', e, f, r⟩ := rev_l1 (x0 := x0) (a := a) (b := b) (c := c) (K := K) n (i + 1) m (q + 1) (p + 1) (l ++ [s]) (by omega) (by omega) hr1 (by omega) ⟨by simp; omega, fun x hx => by
        rcases List.mem_append.1 hx with h1 | h1
        · exact hl.2 x h1
        · rw [List.mem_singleton] at h1; rw [h1]; exact hsl⟩
      exact ⟨l', q', e, f, by rw [show p + ((n + 1 : Nat) : Int) = p + 1 + n by omega]; exact r⟩
theorem review_eq {r : l30Rd} {p : Int} (h : RdOk r p) (hp : p ≤ 100000) : ∃ v q, spec_l30Review r = some (v, q) ∧ RB 4 v ∧ RdOk ⟨r.b, q⟩ (p + 7) := by
  unfold spec_l30Review
  obtain ⟨a, ha, ma⟩ := of_eq h (by omega) (l := ([([115, 105, 100, 101] : Str), ([100, 101, 118] : Str), ([109, 97, 105, 110] : Str)] : List Str)) (by simp) (by simp)
  have r1 := on1 h (q := p + 1) (by omega)
  obtain ⟨b, hb, mb⟩ := of_eq r1 (by omega) (l := ([([109, 97, 105, 110] : Str), ([109, 97, 105, 110] : Str), ([100, 101, 118] : Str)] : List Str)) (by simp) (by simp)
  have r2 := on1 r1 (q := p + 2) (by omega)
  obtain ⟨c, hc, mc⟩ := of_eq r2 (by omega) (l := ([([97, 110, 110] : Str), ([98, 111, 98] : Str), ([101, 118, 101] : Str)] : List Str)) (by simp) (by simp)
  have r3 := on1 r2 (q := p + 3) (by omega)
  simp only [List.mem_cons, List.not_mem_nil, or_false] at ma mb mc
  have la : a.length ≤ 4 := by rcases ma with rfl | rfl | rfl <;> simp
  have lb : b.length ≤ 4 := by rcases mb with rfl | rfl | rfl <;> simp
  have lc : c.length ≤ 4 := by rcases mc with rfl | rfl | rfl <;> simp
  simp only [ha, Option.bind_some, hb, hc, jn]
  obtain ⟨l, q, e, f, ro⟩ := rev_l1 (x0 := r) (a := a) (b := b) (c := c) (K := fun y65 y66 y68 y69 y70 y71 => (spec_l30Rd_pick ⟨r.b, y66⟩ 14).bind fun z195 => bif ((z195.1 : Int) == (0 : Int)) then ((apM y71 ([([97, 110, 110] : Str)])).bind fun q217 => some (Review.mk y68 y69 y70 q217, z195.2)) else some (Review.mk y68 y69 y70 y71, z195.2)) 3 0 ((((3 : Nat) : Int) - 0).toNat + 1) (r.p + 1 + 1 + 1) (p + 3) [] (by omega) (by omega) r3 (by omega) ⟨by simp, by simp⟩
  refine Exists.elim (?_ : ∃ x : Review × Int, _) fun x hx => ⟨x.1, x.2, hx⟩
  have fl := f.1
  obtain ⟨k, hk, k0, k1⟩ := pick_eq (n := 14) ro (by omega) (by omega) (by omega)
  have hk' : spec_l30Rd_pick ⟨r.b, q⟩ 14 = some (k, q + 1) := hk
  have r4 := on1 ro (q := p + 7) (by omega)
  have e' := e
  cases hk0 : (k == (0 : Int)) with
  | true =>
    refine ⟨(⟨a, b, c, l ++ [[97, 110, 110]]⟩, q + 1), ?_, ⟨la, lb, lc, by simp; omega, fun x hx => by
      rcases List.mem_append.1 hx with h1 | h1
      · exact f.2 x h1
      · rw [List.mem_singleton] at h1; rw [h1]; simp⟩, r4⟩
    refine e.trans ?_
    rw [hk', Option.bind_some, hk0, cond_true, ap1 (by omega)]
    rfl
  | false =>
    refine ⟨(⟨a, b, c, l⟩, q + 1), ?_, ⟨la, lb, lc, f.mono (by omega)⟩, r4⟩
    refine e.trans ?_
    rw [hk', Option.bind_some, hk0, cond_false]
theorem drawYes_eq {code : List Byte} (h : code.length ≤ 1048576) : ∃ v who, spec_DrawReviewYes code = some (v, who) ∧ RB 4 v ∧ who.length ≤ 4 := by
  obtain ⟨c, hc, hl⟩ := open_eq h
  have r0 : RdOk ⟨c, 0⟩ 0 := ⟨hl, by show (0 : Int) ≤ 0; omega, by show (0 : Int) ≤ 0; omega⟩
  obtain ⟨v, q, hv, bv, r1⟩ := review_eq r0 (by omega)
  obtain ⟨s, hs, ms⟩ := of_eq r1 (by omega) (l := ([([97, 110, 110] : Str), ([98, 111, 98] : Str), ([122, 111, 101] : Str), ([] : Str)] : List Str)) (by simp) (by simp)
  unfold spec_DrawReviewYes
  rw [hc, Option.bind_some, hv, Option.bind_some]
  have hs' : spec_l30Rd_of ⟨c, q⟩ ([([97, 110, 110] : Str), ([98, 111, 98] : Str), ([122, 111, 101] : Str), ([] : Str)] : List Str) = some (s, q + 1) := hs
  simp only [hs', Option.bind_some]
  simp only [List.mem_cons, List.not_mem_nil, or_false] at ms
  exact ⟨v, s, rfl, bv, by rcases ms with rfl | rfl | rfl | rfl <;> simp⟩
theorem FnReviewYes_eq {code : List Byte} (h : Bk.fit code) : laws_FnReviewYes code = some true := by
  unfold laws_FnReviewYes
  by_cases hc : (1048576 : Int) < (code.length : Int)
  · rw [decide_eq_true hc]; rfl
  rw [decide_eq_false hc, cond_false]
  obtain ⟨v, who, hd, bv, bw⟩ := drawYes_eq (code := code) (by omega)
  have fv := bv.fit (by omega)
  have fw : who.length ≤ maxi := by unfold maxi; omega
  rw [hd, Option.bind_some]
  simp only [iReviewYes_eq fv fw, sReviewYes_eq fv fw, Option.bind_some, jn, bne_self_eq_false, cond_false, ReviewOk_eq fv, spec_ReviewOk, l17Ok_eq fv, beq_self_eq_true]
  have hlen : (yesB v who).1.Yes.length ≤ maxi := by
    have h1 := bv.2.2.2.1
    have h2 := insS_len v.Yes who
    unfold yesB
    cases revB v
    · simp [maxi]
    · cases revB (withYes v (insS v.Yes who))
      · simp only [cond_true, cond_false]; unfold maxi; omega
      · simp only [cond_true, withYes]; unfold maxi; omega
  simp only [smReview_eq hlen, Option.bind_some, beq_self_eq_true, Bool.not_true, cond_false, cond_true]
  cases hr : revB v with
  | false => rfl
  | true =>
    rw [Bool.not_true, cond_false]
    cases hr2 : revB (withYes v (insS v.Yes who)) with
    | false =>
      have e : yesB v who = (v, false) := by unfold yesB; rw [hr, hr2]; rfl
      simp [e]
    | true =>
      have e : yesB v who = (withYes v (insS v.Yes who), true) := by unfold yesB; rw [hr, hr2]; rfl
      have fx := ins_fit fv fw (rev_short hr)
      have e2 : yesB (withYes v (insS v.Yes who)) who = (withYes v (insS v.Yes who), true) := by
        unfold yesB
        have : withYes (withYes v (insS v.Yes who)) (insS (withYes v (insS v.Yes who)).Yes who) = withYes v (insS v.Yes who) := by
          unfold withYes
          simp only [insS_again]
        rw [this, hr2]
        rfl
      rw [e]
      simp only [Bool.not_true, cond_false, iReviewYes_eq fx fw, Option.bind_some, e2, fuel0, ReviewOk_eq fx, hr2, smHas_eq (fit_len fx.2.2.2), cond_true, smReview_eq (fit_len fx.2.2.2), beq_self_eq_true]
      rw [loop_list (α := Str) (xs := v.Yes) (p := fun _ => true) (r0 := some false) (Z := some true) (f := fun m i => laws_FnReviewYes_l1 (v, who) (withYes v (insS v.Yes who), true) _ m false i) (fun m i x hx => by
        have hm : x ∈ (withYes v (insS v.Yes who)).Yes := insS_mem.2 (.inl (List.mem_of_getElem? hx))
        simp only [laws_FnReviewYes_l1, lt_of hx, gi_of hx, cond_true, Option.bind_some, smHas_eq (fit_len fx.2.2.2), decide_eq_true hm, Bool.not_true, cond_false, w64_ix (ix_of hx) (fit_len fv.2.2.2)]) (fun m => by
        have hm : who ∈ (withYes v (insS v.Yes who)).Yes := insS_mem.2 (.inr rfl)
        simp only [laws_FnReviewYes_l1, end_of, cond_false, decide_eq_true hm, cond_true]) (by omega)]
      have : (v.Yes.all fun _ => true) = true := by rw [List.all_eq_true]; exact fun _ _ => rfl
      rw [this]
      rfl
end Go.Vm
