/- Plain laws of what is drawn: lines, texts, what becomes of them. Conditions: each law's own premises. -/
import Derived.Test.YtjdljoplpcakpaaXQd
import Derived.Test.YtjdljoplpcakpaaXQi
namespace Go.Vm
open Go Go.Sx
set_option linter.unusedSimpArgs false
set_option linter.unusedVariables false

/-- A text of n lines at most, none of them long. -/
def LB (n : Nat) (t : List Str) : Prop := t.length ≤ n ∧ ∀ s ∈ t, s.length ≤ 100
theorem LB.fit {n : Nat} {t : List Str} (h : LB n t) (hn : n ≤ 1000000) : Bk.fit t := ⟨by have := h.1; unfold maxi; omega, fun s hs => by have := h.2 s hs; show s.length ≤ maxi; unfold maxi; omega⟩
theorem LB.mono {n m : Nat} {t : List Str} (h : LB n t) (hm : n ≤ m) : LB m t := ⟨Nat.le_trans h.1 hm, h.2⟩
theorem sumB_bound {α : Type} {f : α → Nat} {c : Nat} : ∀ {t : List α}, (∀ s ∈ t, f s ≤ c) → sumB f t ≤ c * t.length
  | [], _ => by simp [sumB]
  | x :: t, h => by
    have h1 := h x (by simp)
    have h2 := sumB_bound (t := t) (fun s hs => h s (by simp [hs]))
    simp only [sumB, List.length_cons, Nat.mul_add, Nat.mul_one]
    omega
theorem LB.bulk {n : Nat} {t : List Str} (h : LB n t) : Bk.bulk t ≤ 101 * n := by
  have h1 : sumB Bk.bulk t ≤ 100 * t.length := sumB_bound (f := fun s : Str => s.length) (c := 100) (fun s hs => h.2 s hs)
  have := h.1
  rw [bulkL]
  omega
section
variable {r : l30Rd} {p : Int}
theorem of_eq (h : RdOk r p) (hp : p ≤ 1099511627776) {l : List Str} (h0 : 0 < l.length) (hl : l.length ≤ 1000) : ∃ s, spec_l30Rd_of r l = some (s, r.p + 1) ∧ s ∈ l := by
  obtain ⟨k, hk, k0, k1⟩ := pick_eq (n := (l.length : Int)) h hp (by omega) (by omega)
  obtain ⟨s, hs⟩ := gi_some' k0 k1
  unfold spec_l30Rd_of
  rw [hk, Option.bind_some, hs, Option.bind_some]
  exact ⟨s, rfl, List.mem_of_getElem? (gi_some hs).2.1⟩
theorem one_eq (h : RdOk r p) (hp : p ≤ 1099511627776) {l : List Int} (h0 : 0 < l.length) (hl : l.length ≤ 1000) : ∃ s, spec_l30Rd_one r l = some (s, r.p + 1) ∧ s ∈ l := by
  obtain ⟨k, hk, k0, k1⟩ := pick_eq (n := (l.length : Int)) h hp (by omega) (by omega)
  obtain ⟨s, hs⟩ := gi_some' k0 k1
  unfold spec_l30Rd_one
  rw [hk, Option.bind_some, hs, Option.bind_some]
  exact ⟨s, rfl, List.mem_of_getElem? (gi_some hs).2.1⟩
theorem line_eq (h : RdOk r p) (hp : p ≤ 1099511627776) : ∃ s, spec_l30Line r = some (s, r.p + 1) ∧ s.length ≤ 12 := by
  unfold spec_l30Line
  obtain ⟨s, hs, hm⟩ := of_eq h hp (l := ([([97] : Str), ([98] : Str), ([99] : Str), ([100] : Str), ([] : Str), ([120, 32, 121] : Str), ([115, 101, 101, 32, 97] : Str), ([115, 101, 101, 32, 100, 47, 101] : Str), ([101, 110, 100] : Str)] : List Str)) (by simp) (by simp)
  rw [hs, Option.bind_some]
  refine ⟨s, rfl, ?_⟩
  simp only [List.mem_cons, List.not_mem_nil, or_false] at hm
  rcases hm with rfl | rfl | rfl | rfl | rfl | rfl | rfl | rfl | rfl <;> simp
theorem on1 (h : RdOk r p) {q : Int} (hq : p + 1 ≤ q) : RdOk ⟨r.b, r.p + 1⟩ q := h.on 1 (by omega) (by have := h.2.2; omega)
theorem text_l1 {x0 : l30Rd} : ∀ (m : Nat) (out : List Str) (n q p : Int), 0 ≤ n → n < m → n ≤ 100 → LB 100 out → RdOk ⟨x0.b, q⟩ p → p + n ≤ 1099511627776 → out.length + n ≤ 100 →
    ∃ out' q', spec_l30Text_l1 x0 (fun y15 y18 y19 => some (y15, y19)) m out n q = some (out', q') ∧ LB 100 out' ∧ (out'.length : Int) = out.length + n ∧ RdOk ⟨x0.b, q'⟩ (p + n)
  | 0, out, n, q, p, h0, hm, _, _, _, _, _ => by omega
  | m + 1, out, n, q, p, h0, hm, hn, hf, hr, hp, hl => by
    simp only [spec_l30Text_l1]
    by_cases hn0 : 0 < n
    · obtain ⟨s, hs, hs2⟩ := line_eq hr (by omega)
      have hs' : spec_l30Line ⟨x0.b, q⟩ = some (s, q + 1) := hs
      rw [decide_eq_true hn0, cond_true, hs', Option.bind_some, ap1 (show out.length ≤ 1048576 by omega), Option.bind_some, w64_id (by omega) (by omega)]
      have hf' : LB 100 (out ++ [s]) := ⟨by simp; omega, fun x hx => by
        rcases List.mem_append.1 hx with h1 | h1
        · exact hf.2 x h1
        · rw [List.mem_singleton] at h1; rw [h1]; omega⟩
      obtain ⟨o', q', e, f', l', r'⟩ := text_l1 (x0 := x0) m (out ++ [s]) (n - 1) (q + 1) (p + 1) (by omega) (by omega) (by omega) hf' (on1 hr (by omega)) (by omega) (by simp; omega)
      exact ⟨o', q', e, f', by rw [l']; simp; omega, by rw [show p + n = p + 1 + (n - 1) by omega]; exact r'⟩
    · have hz : n = 0 := by omega
      subst hz
      rw [decide_eq_false hn0, cond_false]
      exact ⟨out, q, rfl, hf, by omega, by simpa using hr⟩
theorem text_eq (h : RdOk r p) (hp : p ≤ 1000000000) : ∃ t q, spec_l30Text r = some (t, q) ∧ LB 8 t ∧ RdOk ⟨r.b, q⟩ (p + 10) := by
  unfold spec_l30Text
  obtain ⟨n, hn, hm⟩ := one_eq h (by omega) (l := [0, 1, 3, 5, 8]) (by simp) (by simp)
  have hn8 : 0 ≤ n ∧ n ≤ 8 := by
    simp only [List.mem_cons, List.not_mem_nil, or_false] at hm
    omega
  rw [hn, Option.bind_some]
  simp only [jn]
  obtain ⟨t, q, e, f, l, ro⟩ := text_l1 (x0 := r) ((n - 0).toNat + 1) [] n (r.p + 1) (p + 1) hn8.1 (by omega) (by omega) ⟨by simp, by simp⟩ (on1 h (by omega)) (by omega) (by simp; omega)
  refine ⟨t, q, e, ⟨by simp at l; omega, f.2⟩, ro.1, ro.2.1, ?_⟩
  have := ro.2.2
  omega
theorem anyText_eq (h : RdOk r p) (hp : p ≤ 1000000000) : ∃ t q, spec_l30AnyText r = some (t, q) ∧ LB 18 t ∧ RdOk ⟨r.b, q⟩ (p + 20) := by
  obtain ⟨t, q, ht, hl, hr⟩ := text_eq h hp
  unfold spec_l30AnyText
  obtain ⟨k, hk, k0, k1⟩ := pick_eq (n := 16) hr (by omega) (by omega) (by omega)
  have hr1 := on1 hr (q := p + 11) (by omega)
  have hk' : spec_l30Rd_pick ⟨r.b, q⟩ 16 = some (k, q + 1) := hk
  rw [ht, Option.bind_some, hk', Option.bind_some]
  cases hk0 : (k == (0 : Int)) with
  | true =>
    obtain ⟨s, hs, hm⟩ := of_eq hr1 (by omega) (l := ([([97, 32, 108, 105, 110, 101, 32, 116, 111, 111, 32, 108, 111, 110, 103] : Str), ([120, 10, 121] : Str), ([255] : Str)] : List Str)) (by simp) (by simp)
    have hs' : spec_l30Rd_of ⟨r.b, q + 1⟩ ([([97, 32, 108, 105, 110, 101, 32, 116, 111, 111, 32, 108, 111, 110, 103] : Str), ([120, 10, 121] : Str), ([255] : Str)] : List Str) = some (s, q + 1 + 1) := hs
    have ho := hl.1
    rw [cond_true, hs', Option.bind_some, ap1 (show t.length ≤ 1048576 by omega), Option.bind_some]
    refine ⟨_, _, rfl, ⟨by simp; omega, fun x hx => ?_⟩, (on1 hr1 (q := p + 20) (by omega))⟩
    rcases List.mem_append.1 hx with h1 | h1
    · exact hl.2 x h1
    · rw [List.mem_singleton] at h1
      subst h1
      simp only [List.mem_cons, List.not_mem_nil, or_false] at hm
      rcases hm with rfl | rfl | rfl <;> simp
  | false =>
    rw [cond_false]
    cases hk1 : (k == (1 : Int)) with
    | true =>
      have ho := hl.1
      rw [cond_true, apM_of (by simp [lim]; omega), Option.bind_some]
      refine ⟨_, _, rfl, ⟨by simp; omega, fun x hx => ?_⟩, hr1.1, hr1.2.1, by have := hr1.2.2; show q + 1 ≤ p + 20; have : q + 1 ≤ p + 11 := this; omega⟩
      rcases List.mem_append.1 hx with h1 | h1
      · exact hl.2 x h1
      · simp only [List.mem_cons, List.not_mem_nil, or_false] at h1
        rcases h1 with rfl | rfl | rfl | rfl | rfl | rfl | rfl | rfl | rfl | rfl <;> simp
    | false =>
      rw [cond_false]
      exact ⟨_, _, rfl, hl.mono (by omega), hr1.1, hr1.2.1, by have := hr1.2.2; show q + 1 ≤ p + 20; have : q + 1 ≤ p + 11 := this; omega⟩
theorem slM_mem {α : Type} {xs ys : List α} {l h : Int} (e : slM xs l h = some ys) {x : α} (hx : x ∈ ys) : x ∈ xs := by
  unfold slM at e
  split at e
  · cases e; exact List.mem_of_mem_take (List.mem_of_mem_drop hx)
  · cases e
theorem slM_len {α : Type} {xs ys : List α} {l h : Int} (e : slM xs l h = some ys) : (ys.length : Int) = h - l := by
  unfold slM at e
  split at e
  · rename_i hh
    cases e
    simp
    omega
  · cases e
theorem turn_l1 {x0 : l30Rd} : ∀ (m : Nat) (out : List Str) (n q p : Int), 0 ≤ n → n < m → n ≤ 10 → LB 100 out → RdOk ⟨x0.b, q⟩ p → p + 3 * n ≤ 1000000000 → out.length + n ≤ 50 →
    ∃ out' q', spec_l30Turn_l1 x0 (fun y16 y19 y22 => some (y16, y22)) m out n q = some (out', q') ∧ LB 100 out' ∧ (out'.length : Int) ≤ out.length + n ∧ RdOk ⟨x0.b, q'⟩ (p + 3 * n)
  | 0, out, n, q, p, h0, hm, _, _, _, _, _ => by omega
  | m + 1, out, n, q, p, h0, hm, hn, hf, hr, hp, hl => by
    simp only [spec_l30Turn_l1, jn]
    by_cases hn0 : 0 < n
    case neg =>
      have hz : n = 0 := by omega
      subst hz
      rw [decide_eq_false hn0, cond_false]
      exact ⟨out, q, rfl, hf, by omega, by simpa using hr⟩
    have e1 : w64 ((out.length : Int) + 1) = (out.length : Int) + 1 := w64_id (by omega) (by omega)
    have e2 : w64 (n - 1) = n - 1 := w64_id (by omega) (by omega)
    obtain ⟨k, hk, k0, k1⟩ := pick_eq (n := (out.length : Int) + 1) hr (by omega) (by omega) (by omega)
    have hk' : spec_l30Rd_pick ⟨x0.b, q⟩ ((out.length : Int) + 1) = some (k, q + 1) := hk
    have hr1 := on1 hr (q := p + 1) (by omega)
    obtain ⟨j, hj, j0, j1⟩ := pick_eq (n := 3) hr1 (by omega) (by omega) (by omega)
    have hj' : spec_l30Rd_pick ⟨x0.b, q + 1⟩ 3 = some (j, q + 1 + 1) := hj
    have hr2 := on1 hr1 (q := p + 2) (by omega)
    obtain ⟨s, hs, hs2⟩ := line_eq hr2 (by omega)
    have hs' : spec_l30Line ⟨x0.b, q + 1 + 1⟩ = some (s, q + 1 + 1 + 1) := hs
    have hr3 := on1 hr2 (q := p + 3) (by omega)
    rw [decide_eq_true hn0, cond_true, e1, hk', Option.bind_some, hj', Option.bind_some, e2]
    have stay : ∃ out' q', spec_l30Turn_l1 x0 (fun y16 y19 y22 => some (y16, y22)) m out (n - 1) (q + 1 + 1) = some (out', q') ∧ LB 100 out' ∧ (out'.length : Int) ≤ out.length + n ∧ RdOk ⟨x0.b, q'⟩ (p + 3 * n) := by
      obtain ⟨o', q', e, f', l', r'⟩ := turn_l1 (x0 := x0) m out (n - 1) (q + 1 + 1) (p + 3) (by omega) (by omega) (by omega) hf ⟨hr2.1, hr2.2.1, by have : q + 1 + 1 ≤ p + 2 := hr2.2.2; show q + 1 + 1 ≤ p + 3; omega⟩ (by omega) (by omega)
      exact ⟨o', q', e, f', by omega, by rw [show p + 3 * n = p + 3 + 3 * (n - 1) by omega]; exact r'⟩
    have go : ∀ (out1 : List Str) (q1 : Int), LB 100 out1 → (out1.length : Int) ≤ out.length + 1 → RdOk ⟨x0.b, q1⟩ (p + 3) → ∃ out' q', spec_l30Turn_l1 x0 (fun y16 y19 y22 => some (y16, y22)) m out1 (n - 1) q1 = some (out', q') ∧ LB 100 out' ∧ (out'.length : Int) ≤ out.length + n ∧ RdOk ⟨x0.b, q'⟩ (p + 3 * n) := by
      intro out1 q1 hf1 hl1 hr4
      obtain ⟨o', q', e, f', l', r'⟩ := turn_l1 (x0 := x0) m out1 (n - 1) q1 (p + 3) (by omega) (by omega) (by omega) hf1 hr4 (by omega) (by omega)
      exact ⟨o', q', e, f', by omega, by rw [show p + 3 * n = p + 3 + 3 * (n - 1) by omega]; exact r'⟩
    have hr2' : RdOk ⟨x0.b, q + 1 + 1⟩ (p + 3) := ⟨hr2.1, hr2.2.1, by have : q + 1 + 1 ≤ p + 2 := hr2.2.2; show q + 1 + 1 ≤ p + 3; omega⟩
    cases hj0 : (j == (0 : Int)) with
    | true =>
      rw [cond_true]
      by_cases hten : (out.length : Int) < 10
      case neg => rw [decide_eq_false hten, cond_false]; exact stay
      obtain ⟨a1, ha1⟩ : ∃ a1, slM out 0 k = some a1 := ⟨_, slM_of (by omega) k0 (by omega)⟩
      obtain ⟨a2, ha2⟩ : ∃ a2, slM out k (out.length : Int) = some a2 := ⟨_, slM_of k0 (by omega) (by omega)⟩
      have l1 := slM_len ha1
      have l2 := slM_len ha2
      rw [decide_eq_true hten, cond_true, ha1, Option.bind_some, apN (show a1.length ≤ 1048576 by omega), Option.bind_some, hs', Option.bind_some, ap1 (show a1.length ≤ 1048576 by omega), Option.bind_some, ha2, Option.bind_some, apM_of (by simp [lim]; omega), Option.bind_some]
      refine go _ _ ⟨by simp; omega, fun x hx => ?_⟩ (by simp; omega) hr3
      rcases List.mem_append.1 hx with h1 | h1
      · rcases List.mem_append.1 h1 with h2 | h2
        · exact hf.2 x (slM_mem ha1 h2)
        · rw [List.mem_singleton] at h2; rw [h2]; show s.length ≤ 100; omega
      · exact hf.2 x (slM_mem ha2 h1)
    | false =>
      rw [cond_false]
      cases hj1 : (j == (1 : Int)) with
      | true =>
        rw [cond_true]
        by_cases hkl : k < (out.length : Int)
        case neg => rw [decide_eq_false hkl, cond_false]; exact stay
        have ek : w64 (k + 1) = k + 1 := w64_id (by omega) (by omega)
        obtain ⟨a1, ha1⟩ : ∃ a1, slM out 0 k = some a1 := ⟨_, slM_of (by omega) k0 (by omega)⟩
        obtain ⟨a2, ha2⟩ : ∃ a2, slM out (k + 1) (out.length : Int) = some a2 := ⟨_, slM_of (by omega) (by omega) (by omega)⟩
        have l1 := slM_len ha1
        have l2 := slM_len ha2
        rw [decide_eq_true hkl, cond_true, ha1, Option.bind_some, ek, ha2, Option.bind_some, apN (show a1.length ≤ 1048576 by omega), Option.bind_some, apM_of (by simp [lim]; omega), Option.bind_some]
        refine go _ _ ⟨by simp; omega, fun x hx => ?_⟩ (by simp; omega) hr2'
        rcases List.mem_append.1 hx with h1 | h1
        · exact hf.2 x (slM_mem ha1 h1)
        · exact hf.2 x (slM_mem ha2 h1)
      | false =>
        rw [cond_false]
        by_cases hkl : k < (out.length : Int)
        case neg => rw [decide_eq_false hkl, cond_false]; exact stay
        obtain ⟨u, hu⟩ := gi_some' k0 hkl
        rw [decide_eq_true hkl, cond_true, hs', Option.bind_some, hu, Option.bind_some]
        have hsi : siM out k s = some (out.set k.toNat s) := by unfold siM; rw [if_pos ⟨k0, hkl⟩]
        rw [hsi, Option.bind_some]
        refine go _ _ ⟨by simpa using hf.1, fun x hx => ?_⟩ (by simp; omega) hr3
        rcases List.mem_or_eq_of_mem_set hx with h1 | h1
        · exact hf.2 x h1
        · rw [h1]; omega
theorem turn_eq (h : RdOk r p) (hp : p ≤ 900000000) {n : Nat} {t : List Str} (ht : LB n t) (hn : n ≤ 40) : ∃ t' q, spec_l30Turn r t = some (t', q) ∧ LB (n + 3) t' ∧ RdOk ⟨r.b, q⟩ (p + 20) := by
  have hl := ht.1
  obtain ⟨k, hk, k0, k1⟩ := pick_eq (n := 4) h (by omega) (by omega) (by omega)
  unfold spec_l30Turn
  rw [apN (show t.length ≤ 1048576 by omega), Option.bind_some, hk, Option.bind_some]
  simp only [jn]
  obtain ⟨o, q, e, f, l, ro⟩ := turn_l1 (x0 := r) ((k - 0).toNat + 1) t k (r.p + 1) (p + 1) k0 (by omega) (by omega) (ht.mono (by omega)) (on1 h (by omega)) (by omega) (by omega)
  refine ⟨o, q, e, ⟨by omega, f.2⟩, ro.1, ro.2.1, ?_⟩
  have := ro.2.2
  omega
end
theorem three_eq {code : List Byte} (h : code.length ≤ 1048576) : ∃ o a b, spec_DrawMergeOf code = some (o, a, b) ∧ LB 40 o ∧ LB 40 a ∧ LB 40 b := by
  obtain ⟨c, hc, hl⟩ := open_eq h
  have r0 : RdOk ⟨c, 0⟩ 0 := ⟨hl, by show (0 : Int) ≤ 0; omega, by show (0 : Int) ≤ 0; omega⟩
  obtain ⟨o, q1, ho, lo, r1⟩ := anyText_eq r0 (by omega)
  obtain ⟨a, q2, ha, la, r2⟩ := turn_eq r1 (by omega) lo (by omega)
  obtain ⟨k, hk, k0, k1⟩ := pick_eq (n := 8) r2 (by omega) (by omega) (by omega)
  have hk' : spec_l30Rd_pick ⟨c, q2⟩ 8 = some (k, q2 + 1) := hk
  have r3 := on1 r2 (q := 100) (by omega)
  obtain ⟨b, q3, hb, lb, r4⟩ := turn_eq r3 (by omega) lo (by omega)
  have ha' : spec_l30Turn ⟨c, q1⟩ o = some (a, q2) := ha
  have hb' : spec_l30Turn ⟨c, q2 + 1⟩ o = some (b, q3) := hb
  unfold spec_DrawMergeOf spec_l30Three
  rw [hc, Option.bind_some, ho, Option.bind_some]
  simp only [ha', Option.bind_some, hk']
  cases hk0 : (k == (0 : Int)) with
  | true => exact ⟨o, a, a, rfl, lo.mono (by omega), la.mono (by omega), la.mono (by omega)⟩
  | false =>
    simp only [cond_false, hb', Option.bind_some]
    exact ⟨o, a, b, rfl, lo.mono (by omega), la.mono (by omega), lb.mono (by omega)⟩
end Go.Vm
