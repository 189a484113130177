/- Plain law FnOpPut, and what it uses: what the models answer. Conditions: each law's own premises. -/
import Derived.Test.YtkfeiopifiejgaaDoorXM0
import Derived.Test.YtkfeiopifiejgaaDoorXM1
import Derived.Test.YtkfeiopifiejgaaDoorXLw
import Derived.Sort.Walk0
import Derived.Lib.SplitLaws
import Derived.Test.YtkfeiopifiejgaaDoorXX
import Derived.Lib.Join
import Derived.Lib.ItoaNum
import Derived.Lib.AtoiAllCases
namespace Go.Vm
open Go Go.Sx
set_option linter.unusedSimpArgs false
set_option linter.unusedVariables false

def chB (c : UInt8) : Bool := !(decide ((c.toNat : Int) < 32) || decide (126 < (c.toNat : Int)))
def lineB (s : Str) : Bool := !decide (12 < (s.length : Int)) && s.all chB
def textB (xs : List Str) : Bool := !decide (10 < (xs.length : Int)) && xs.all lineB
theorem ble_not (a b : Int) : decide (a ≤ b) = !decide (b < a) := by
  by_cases h : a ≤ b
  · rw [decide_eq_true h, decide_eq_false (by omega)]; rfl
  · rw [decide_eq_false h, decide_eq_true (by omega)]; rfl

theorem lineOk_eq {s : Str} (h : s.length ≤ maxi) : impl_lineOk s = some (lineB s) := by
  unfold impl_lineOk lineB
  simp only [jn, fuel0]
  cases decide ((12 : Int) < (s.length : Int))
  case true => rfl
  rw [cond_false, loop_list (α := UInt8) (xs := s) (p := chB) (r0 := some false) (Z := some true) (f := fun m i => impl_lineOk_l1 s (fun _ _ => some true) m false i) (fun m i x hx => by
    simp only [impl_lineOk_l1, jn, lt_of hx, chM_of hx, cond_true, Option.bind_some, w64_ix (ix_of hx) h, chB]
    cases decide ((x.toNat : Int) < 32) <;> cases decide (126 < (x.toNat : Int)) <;> rfl) (fun m => by simp only [impl_lineOk_l1, end_of, cond_false]) (by omega)]
  cases s.all chB <;> rfl
theorem l1Line_eq {s : Str} (h : s.length ≤ maxi) : spec_l1Line s = some (lineB s) := by
  unfold spec_l1Line lineB
  simp only [jn, fuel0, ble_not]
  rw [loop_list (α := UInt8) (xs := s) (p := chB) (r0 := some false) (Z := some (!decide (12 < (s.length : Int)))) (f := fun m i => spec_l1Line_l1 s (fun _ _ => some (!decide (12 < (s.length : Int)))) m false i) (fun m i x hx => by
    simp only [spec_l1Line_l1, jn, lt_of hx, chM_of hx, cond_true, Option.bind_some, w64_ix (ix_of hx) h, chB]
    cases decide ((x.toNat : Int) < 32) <;> cases decide (126 < (x.toNat : Int)) <;> rfl) (fun m => by simp only [spec_l1Line_l1, end_of, cond_false]) (by omega)]
  cases s.all chB <;> cases decide (12 < (s.length : Int)) <;> rfl
theorem TextOk_eq {xs : List Str} (h : Bk.fit xs) : impl_TextOk xs = some (textB xs) := by
  have hl := fit_len h
  unfold impl_TextOk textB
  simp only [jn, fuel0]
  cases decide ((10 : Int) < (xs.length : Int))
  case true => rfl
  rw [cond_false, loop_list (α := Str) (xs := xs) (p := lineB) (r0 := some false) (Z := some true) (f := fun m i => impl_TextOk_l1 xs (fun _ _ => some true) m false i) (fun m i x hx => by
    have hx2 : x.length ≤ maxi := fit_at h hx
    simp only [impl_TextOk_l1, lt_of hx, gi_of hx, cond_true, Option.bind_some, w64_ix (ix_of hx) hl, lineOk_eq hx2]
    cases lineB x <;> rfl) (fun m => by simp only [impl_TextOk_l1, end_of, cond_false]) (by omega)]
  cases xs.all lineB <;> rfl
theorem l1Ok_eq {xs : List Str} (h : Bk.fit xs) : spec_l1Ok xs = some (textB xs) := by
  have hl := fit_len h
  unfold spec_l1Ok textB
  simp only [jn, fuel0, ble_not]
  rw [loop_list (α := Str) (xs := xs) (p := lineB) (r0 := some false) (Z := some (!decide (10 < (xs.length : Int)))) (f := fun m i => spec_l1Ok_l1 xs (fun _ _ => some (!decide (10 < (xs.length : Int)))) m false i) (fun m i x hx => by
    have hx2 : x.length ≤ maxi := fit_at h hx
    simp only [spec_l1Ok_l1, lt_of hx, gi_of hx, cond_true, Option.bind_some, w64_ix (ix_of hx) hl, l1Line_eq hx2]
    cases lineB x <;> rfl) (fun m => by simp only [spec_l1Ok_l1, end_of, cond_false]) (by omega)]
  cases xs.all lineB <;> cases decide (10 < (xs.length : Int)) <;> rfl
end Go.Vm

namespace Go.Vm
open Go Go.Sx
set_option linter.unusedSimpArgs false
set_option linter.unusedVariables false

theorem xor64_pos {a b : Int} (ha : 0 ≤ a) (ha' : a ≤ 9223372036854775807) (hb : 0 ≤ b) (hb' : b ≤ 9223372036854775807) : 0 ≤ xor64 a b ∧ xor64 a b ≤ 9223372036854775807 := by
  obtain ⟨n, rfl⟩ := Int.eq_ofNat_of_zero_le ha
  obtain ⟨m, rfl⟩ := Int.eq_ofNat_of_zero_le hb
  have hn : n < 2 ^ 63 := by omega
  have hm : m < 2 ^ 63 := by omega
  have hx : n ^^^ m < 2 ^ 63 := Nat.xor_lt_two_pow hn hm
  have h1 : (BitVec.ofInt 64 (n : Int) ^^^ BitVec.ofInt 64 (m : Int)).toNat = n ^^^ m := by
    rw [BitVec.toNat_xor, BitVec.toNat_ofInt, BitVec.toNat_ofInt]
    have e1 : ((n : Int) % (2 ^ 64 : Nat)).toNat = n := by omega
    have e2 : ((m : Int) % (2 ^ 64 : Nat)).toNat = m := by omega
    rw [e1, e2]
  unfold xor64
  rw [h1]
  have := w64_id (n := ((n ^^^ m : Nat) : Int)) (by omega) (by omega)
  unfold w64 at this
  rw [this]
  omega
theorem tmod_range {a n : Int} (ha : 0 ≤ a) (hn : 0 < n) : 0 ≤ Int.tmod a n ∧ Int.tmod a n < n := ⟨Int.tmod_nonneg n ha, Int.tmod_lt_of_pos a hn⟩
/-- The reader stands well. -/
def RdOk (r : l30Rd) (p : Int) : Prop := r.b.length ≤ 2000 ∧ 0 ≤ r.p ∧ r.p ≤ p

theorem byte_range (u : UInt8) : 0 ≤ ((UInt8.toNat u : Nat) : Int) ∧ ((UInt8.toNat u : Nat) : Int) ≤ 255 := by
  have := UInt8.toNat_lt u
  omega
theorem tdiv_range {a n : Int} (ha : 0 ≤ a) (hn : 0 < n) : 0 ≤ Int.tdiv a n ∧ Int.tdiv a n ≤ a := ⟨Int.tdiv_nonneg ha (by omega), Int.tdiv_le_self n ha⟩
/-- One draw: a number below n, and the reader one step on. -/
theorem pick_eq {r : l30Rd} {n p : Int} (h : RdOk r p) (hp : p ≤ 1099511627776) (hn : 0 < n) (hn' : n ≤ 1073741824) : ∃ k, spec_l30Rd_pick r n = some (k, r.p + 1) ∧ 0 ≤ k ∧ k < n := by
  obtain ⟨hb, h0, h1⟩ := h
  unfold spec_l30Rd_pick
  have e1 : w64 (r.p + 1) = r.p + 1 := w64_id (by omega) (by omega)
  have e2 : w64 (r.p + 1 - 1) = r.p := by rw [w64_id (by omega) (by omega)]; omega
  simp only [jn, e1, e2]
  rw [decide_eq_false (show ¬ n < 1 by omega), cond_false]
  cases hl : (((r.b.length : Int)) == (0 : Int)) with
  | true => exact ⟨0, rfl, by omega, hn⟩
  | false =>
    have hlen : 0 < (r.b.length : Int) := by
      have : (r.b.length : Int) ≠ 0 := by simpa using hl
      omega
    rw [cond_false]
    by_cases hlt : r.p < (r.b.length : Int)
    · obtain ⟨u, hu⟩ := gi_some' h0 hlt
      obtain ⟨u0, u1⟩ := byte_range u
      rw [decide_eq_true hlt, cond_true, hu, Option.bind_some, if_neg (by omega), Option.bind_some, w64_id (by omega) (by omega)]
      exact ⟨_, rfl, tmod_range u0 hn⟩
    · rw [decide_eq_false hlt, cond_false, if_neg (by omega), Option.bind_some]
      obtain ⟨a0, a1⟩ := tmod_range h0 hlen
      obtain ⟨u, hu⟩ := gi_some' a0 a1
      obtain ⟨u0, u1⟩ := byte_range u
      have e3 : w64 (r.p * 7) = r.p * 7 := w64_id (by omega) (by omega)
      have e4 : w64 (r.p * 7 + 3) = r.p * 7 + 3 := w64_id (by omega) (by omega)
      obtain ⟨b0, b1⟩ := tmod_range (show 0 ≤ r.p * 7 + 3 by omega) hlen
      obtain ⟨v, hv⟩ := gi_some' b0 b1
      obtain ⟨v0, v1⟩ := byte_range v
      obtain ⟨d0, d1⟩ := tdiv_range h0 hlen
      rw [hu, Option.bind_some, if_neg (by omega), Option.bind_some, e3, e4, hv, Option.bind_some, Option.bind_some, Option.bind_some]
      rw [w64_id (n := (UInt8.toNat u : Int)) (by omega) (by omega), w64_id (n := (UInt8.toNat u : Int) * 131) (by omega) (by omega),
        w64_id (n := (UInt8.toNat v : Int)) (by omega) (by omega), w64_id (n := (UInt8.toNat v : Int) * 1117) (by omega) (by omega),
        w64_id (n := (UInt8.toNat u : Int) * 131 + (UInt8.toNat v : Int) * 1117) (by omega) (by omega), w64_id (n := r.p * 29) (by omega) (by omega),
        w64_id (n := (UInt8.toNat u : Int) * 131 + (UInt8.toNat v : Int) * 1117 + r.p * 29) (by omega) (by omega),
        w64_id (n := Int.tdiv r.p (r.b.length : Int)) (by omega) (by omega), w64_id (n := Int.tdiv r.p (r.b.length : Int) * 53) (by omega) (by omega),
        w64_id (n := (UInt8.toNat u : Int) * 131 + (UInt8.toNat v : Int) * 1117 + r.p * 29 + Int.tdiv r.p (r.b.length : Int) * 53) (by omega) (by omega)]
      obtain ⟨q0, q1⟩ := tdiv_range (a := (UInt8.toNat u : Int) * 131 + (UInt8.toNat v : Int) * 1117 + r.p * 29 + Int.tdiv r.p (r.b.length : Int) * 53) (n := 64) (by omega) (by omega)
      rw [w64_id (n := Int.tdiv ((UInt8.toNat u : Int) * 131 + (UInt8.toNat v : Int) * 1117 + r.p * 29 + Int.tdiv r.p (r.b.length : Int) * 53) 64) (by omega) (by omega)]
      exact ⟨_, rfl, tmod_range (xor64_pos (by omega) (by omega) (by omega) (by omega)).1 hn⟩

theorem RdOk.on {r : l30Rd} {p q : Int} (h : RdOk r p) (k : Int) (hk : 0 ≤ k) (hq : r.p + k ≤ q) : RdOk ⟨r.b, r.p + k⟩ q := ⟨h.1, by have := h.2.1; show 0 ≤ r.p + k; omega, hq⟩
theorem open_eq {code : List Byte} (h : code.length ≤ 1048576) : ∃ b : List Byte, spec_l30Open code = some ⟨b, 0⟩ ∧ b.length ≤ 2000 := by
  unfold spec_l30Open
  simp only [jn]
  by_cases hl : (2000 : Int) < (code.length : Int)
  · rw [decide_eq_true hl, cond_true]
    have : slM code 0 2000 = some (code.take 2000) := slM_take (i := 2000) (by omega)
    rw [this, Option.bind_some]
    exact ⟨_, rfl, by simp; omega⟩
  · rw [decide_eq_false hl, cond_false]
    exact ⟨_, rfl, by omega⟩
theorem smTexts_eq {xs ys : List Str} (h : xs.length ≤ maxi) : laws_smTexts xs ys = some (xs == ys) := by
  unfold laws_smTexts
  simp only [bne_len, jn, fuel0]
  by_cases hn : xs.length = ys.length
  · rw [hn, beq_self_eq_true, Bool.not_true, cond_false, ← hn]
    rw [loop_eq (α := Str) (r0 := some false) (Z := some true) (f := fun m i => laws_smTexts_l1 xs ys (fun _ _ => some true) m false i) hn (fun m i x y hx hy => by
      simp only [laws_smTexts_l1, lt_of hx, gi_of hx, gi_of hy, cond_true, Option.bind_some, w64_ix (ix_of hx) h, bne]
      cases x == y <;> rfl) (fun m => by simp only [laws_smTexts_l1, end_of, cond_false]) (by omega)]
    cases xs == ys <;> rfl
  · rw [beq_false_of_ne hn, Bool.not_false, cond_true, beq_false_of_ne (fun e => hn (by rw [e]))]
end Go.Vm

namespace Go.Vm
open Go Go.Sx
set_option linter.unusedSimpArgs false
set_option linter.unusedVariables false

/-- A text of n lines at most, none of them long. -/
def LB (n : Nat) (t : List Str) : Prop := t.length ≤ n ∧ ∀ s ∈ t, s.length ≤ 100
theorem LB.fit {n : Nat} {t : List Str} (h : LB n t) (hn : n ≤ 1000000) : Bk.fit t := ⟨by have := h.1; unfold maxi; omega, fun s hs => by have := h.2 s hs; show s.length ≤ maxi; unfold maxi; omega⟩
theorem sumB_bound {α : Type} {f : α → Nat} {c : Nat} : ∀ {t : List α}, (∀ s ∈ t, f s ≤ c) → sumB f t ≤ c * t.length
  | [], _ => by simp [sumB]
  | x :: t, h => by
    have h1 := h x (by simp)
    have h2 := sumB_bound (t := t) (fun s hs => h s (by simp [hs]))
    simp only [sumB, List.length_cons, Nat.mul_add, Nat.mul_one]
    omega
theorem LB.bulk {n : Nat} {t : List Str} (h : LB n t) : Bk.bulk t ≤ 101 * n := by
  have h1 : sumB Bk.bulk t ≤ 100 * t.length := sumB_bound (f := fun s : Str => s.length) (c := 100) (fun s hs => h.2 s hs)
  have := h.1
  rw [bulkL]
  omega
section
variable {r : l30Rd} {p : Int}
theorem of_eq (h : RdOk r p) (hp : p ≤ 1099511627776) {l : List Str} (h0 : 0 < l.length) (hl : l.length ≤ 1000) : ∃ s, spec_l30Rd_of r l = some (s, r.p + 1) ∧ s ∈ l := by
  obtain ⟨k, hk, k0, k1⟩ := pick_eq (n := (l.length : Int)) h hp (by omega) (by omega)
  obtain ⟨s, hs⟩ := gi_some' k0 k1
  unfold spec_l30Rd_of
  rw [hk, Option.bind_some, hs, Option.bind_some]
  exact ⟨s, rfl, List.mem_of_getElem? (gi_some hs).2.1⟩
theorem one_eq (h : RdOk r p) (hp : p ≤ 1099511627776) {l : List Int} (h0 : 0 < l.length) (hl : l.length ≤ 1000) : ∃ s, spec_l30Rd_one r l = some (s, r.p + 1) ∧ s ∈ l := by
  obtain ⟨k, hk, k0, k1⟩ := pick_eq (n := (l.length : Int)) h hp (by omega) (by omega)
  obtain ⟨s, hs⟩ := gi_some' k0 k1
  unfold spec_l30Rd_one
  rw [hk, Option.bind_some, hs, Option.bind_some]
  exact ⟨s, rfl, List.mem_of_getElem? (gi_some hs).2.1⟩
theorem line_eq (h : RdOk r p) (hp : p ≤ 1099511627776) : ∃ s, spec_l30Line r = some (s, r.p + 1) ∧ s.length ≤ 12 := by
  unfold spec_l30Line
  obtain ⟨s, hs, hm⟩ := of_eq h hp (l := ([([97] : Str), ([98] : Str), ([99] : Str), ([100] : Str), ([] : Str), ([120, 32, 121] : Str), ([115, 101, 101, 32, 97] : Str), ([115, 101, 101, 32, 100, 47, 101] : Str), ([101, 110, 100] : Str)] : List Str)) (by simp) (by simp)
  rw [hs, Option.bind_some]
  refine ⟨s, rfl, ?_⟩
  simp only [List.mem_cons, List.not_mem_nil, or_false] at hm
  rcases hm with rfl | rfl | rfl | rfl | rfl | rfl | rfl | rfl | rfl <;> simp
theorem on1 (h : RdOk r p) {q : Int} (hq : p + 1 ≤ q) : RdOk ⟨r.b, r.p + 1⟩ q := h.on 1 (by omega) (by have := h.2.2; omega)
theorem text_l1 {x0 : l30Rd} : ∀ (m : Nat) (out : List Str) (n q p : Int), 0 ≤ n → n < m → n ≤ 100 → LB 100 out → RdOk ⟨x0.b, q⟩ p → p + n ≤ 1099511627776 → out.length + n ≤ 100 →
    ∃ out' q', spec_l30Text_l1 x0 (fun y15 y18 y19 => some (y15, y19)) m out n q = some (out', q') ∧ LB 100 out' ∧ (out'.length : Int) = out.length + n ∧ RdOk ⟨x0.b, q'⟩ (p + n)
  | 0, out, n, q, p, h0, hm, _, _, _, _, _ => by omega
  | m + 1, out, n, q, p, h0, hm, hn, hf, hr, hp, hl => by
    simp only [spec_l30Text_l1]
    by_cases hn0 : 0 < n
    · obtain ⟨s, hs, hs2⟩ := line_eq hr (by omega)
      have hs' : spec_l30Line ⟨x0.b, q⟩ = some (s, q + 1) := hs
      rw [decide_eq_true hn0, cond_true, hs', Option.bind_some, ap1 (show out.length ≤ 1048576 by omega), Option.bind_some, w64_id (by omega) (by omega)]
      have hf' : LB 100 (out ++ [s]) := ⟨by simp; omega, fun x hx => by
        rcases List.mem_append.1 hx with h1 | h1
        · exact hf.2 x h1
        · rw [List.mem_singleton] at h1; rw [h1]; omega⟩
      obtain ⟨o', q', e, f', l', r'⟩ := text_l1 (x0 := x0) m (out ++ [s]) (n - 1) (q + 1) (p + 1) (by omega) (by omega) (by omega) hf' (on1 hr (by omega)) (by omega) (by simp; omega)
      exact ⟨o', q', e, f', by rw [l']; simp; omega, by rw [show p + n = p + 1 + (n - 1) by omega]; exact r'⟩
    · have hz : n = 0 := by omega
      subst hz
      rw [decide_eq_false hn0, cond_false]
      exact ⟨out, q, rfl, hf, by omega, by simpa using hr⟩
theorem text_eq (h : RdOk r p) (hp : p ≤ 1000000000) : ∃ t q, spec_l30Text r = some (t, q) ∧ LB 8 t ∧ RdOk ⟨r.b, q⟩ (p + 10) := by
  unfold spec_l30Text
  obtain ⟨n, hn, hm⟩ := one_eq h (by omega) (l := [0, 1, 3, 5, 8]) (by simp) (by simp)
  have hn8 : 0 ≤ n ∧ n ≤ 8 := by
    simp only [List.mem_cons, List.not_mem_nil, or_false] at hm
    omega
  rw [hn, Option.bind_some]
  simp only [jn]
  obtain ⟨t, q, e, f, l, ro⟩ := text_l1 (x0 := r) ((n - 0).toNat + 1) [] n (r.p + 1) (p + 1) hn8.1 (by omega) (by omega) ⟨by simp, by simp⟩ (on1 h (by omega)) (by omega) (by simp; omega)
  refine ⟨t, q, e, ⟨by simp at l; omega, f.2⟩, ro.1, ro.2.1, ?_⟩
  have := ro.2.2
  omega
end
end Go.Vm

namespace Go.Vm
open Go Go.Sx Go.Proofs
set_option linter.unusedSimpArgs false
set_option linter.unusedVariables false

def wordB (c : UInt8) : Bool := (decide (97 ≤ (c.toNat : Int)) && decide ((c.toNat : Int) ≤ 122)) || (decide (48 ≤ (c.toNat : Int)) && decide ((c.toNat : Int) ≤ 57))
def nameB (s : Str) : Bool := (decide (1 ≤ (s.length : Int)) && decide ((s.length : Int) ≤ 6)) && s.all wordB
theorem wordByte_eq (c : UInt8) : impl_wordByte c = some (wordB c) := by
  unfold impl_wordByte wordB
  simp only [jn]
  cases decide (97 ≤ (c.toNat : Int)) <;> cases decide ((c.toNat : Int) ≤ 122) <;> cases decide (48 ≤ (c.toNat : Int)) <;> cases decide ((c.toNat : Int) ≤ 57) <;> rfl
theorem within_eq (a b c : Int) : impl_within a b c = some (decide (b ≤ a) && decide (a ≤ c)) := by
  unfold impl_within
  simp only [jn]
  cases decide (b ≤ a) <;> rfl
theorem l1In_eq (a b c : Int) : spec_l1In a b c = some (decide (b ≤ a) && decide (a ≤ c)) := by
  unfold spec_l1In
  simp only [jn]
  cases decide (b ≤ a) <;> rfl
theorem nameOk_eq {s : Str} (h : s.length ≤ maxi) : impl_nameOk s = some (nameB s) := by
  unfold impl_nameOk nameB
  simp only [jn, fuel0, within_eq, Option.bind_some]
  cases (decide (1 ≤ (s.length : Int)) && decide ((s.length : Int) ≤ 6))
  case false => rfl
  simp only [Bool.not_true, cond_false, Bool.true_and]
  rw [loop_list (α := UInt8) (xs := s) (p := wordB) (r0 := some false) (Z := some true) (f := fun m i => impl_nameOk_l1 s (fun _ _ => some true) m false i) (fun m i x hx => by
    simp only [impl_nameOk_l1, jn, lt_of hx, chM_of hx, cond_true, Option.bind_some, w64_ix (ix_of hx) h, wordByte_eq]
    cases wordB x <;> rfl) (fun m => by simp only [impl_nameOk_l1, end_of, cond_false]) (by omega)]
  cases s.all wordB <;> rfl
theorem lt_not (a b : Int) : decide (a < b) = !decide (b ≤ a) := by
  by_cases h : a < b
  · rw [decide_eq_true h, decide_eq_false (by omega)]; rfl
  · rw [decide_eq_false h, decide_eq_true (by omega)]; rfl
theorem l4Name_eq {s : Str} (h : s.length ≤ maxi) : spec_l4Name s = some (nameB s) := by
  unfold spec_l4Name nameB
  simp only [jn, fuel0, l1In_eq, Option.bind_some]
  rw [loop_list (α := UInt8) (xs := s) (p := wordB) (r0 := some false) (Z := some (decide (1 ≤ (s.length : Int)) && decide ((s.length : Int) ≤ 6))) (f := fun m i => spec_l4Name_l1 s (fun _ _ => some (decide (1 ≤ (s.length : Int)) && decide ((s.length : Int) ≤ 6))) m false i) (fun m i x hx => by
    simp only [spec_l4Name_l1, jn, lt_of hx, chM_of hx, cond_true, Option.bind_some, w64_ix (ix_of hx) h, lt_not, wordB]
    cases decide (97 ≤ (x.toNat : Int)) <;> cases decide ((x.toNat : Int) ≤ 122) <;> cases decide (48 ≤ (x.toNat : Int)) <;> cases decide ((x.toNat : Int) ≤ 57) <;> rfl) (fun m => by simp only [spec_l4Name_l1, end_of, cond_false]) (by omega)]
  cases s.all wordB <;> cases (decide (1 ≤ (s.length : Int)) && decide ((s.length : Int) ≤ 6)) <;> rfl
end Go.Vm

namespace Go.Vm
open Go Go.Sx
set_option linter.unusedSimpArgs false
set_option linter.unusedVariables false

def RB (n : Nat) (v : Review) : Prop := v.Branch.length ≤ 4 ∧ v.Into.length ≤ 4 ∧ v.By.length ≤ 4 ∧ LB n v.Yes
theorem RB.fit {n : Nat} {v : Review} (h : RB n v) (hn : n ≤ 1000) : Bk.fit v :=
  ⟨by have := h.1; show v.Branch.length ≤ maxi; unfold maxi; omega, by have := h.2.1; show v.Into.length ≤ maxi; unfold maxi; omega, by have := h.2.2.1; show v.By.length ≤ maxi; unfold maxi; omega, h.2.2.2.fit (by omega)⟩
end Go.Vm

namespace Go.Vm
open Go Go.Sx
set_option linter.unusedSimpArgs false
set_option linter.unusedVariables false

/-- What is behind w, cut at each c. -/
def curS (c : UInt8) : Str → Str → List Str
  | w, [] => [w]
  | w, x :: r => bif x == c then w :: curS c [] r else curS c (w ++ [x]) r
/-- The same, cut n times at most. -/
def curN (c : UInt8) : Nat → Str → Str → List Str
  | _, w, [] => [w]
  | 0, w, x :: r => [w ++ x :: r]
  | n + 1, w, x :: r => bif x == c then w :: curN c n [] r else curN c (n + 1) (w ++ [x]) r
theorem curS_len (c : UInt8) : ∀ (r w : Str), 1 ≤ (curS c w r).length
  | [], w => by simp [curS]
  | x :: r, w => by
    unfold curS
    cases x == c
    · exact curS_len c r _
    · simp
theorem curN_zero (c : UInt8) (w r : Str) : curN c 0 w r = [w ++ r] := by
  cases r <;> simp [curN]
theorem curN_same (c : UInt8) : ∀ (r : Str) (n : Nat) (w : Str), (curS c w r).length ≤ n + 1 → curN c n w r = curS c w r
  | [], n, w, h => by cases n <;> simp [curN, curS]
  | x :: r, 0, w, h => by
    unfold curS at h ⊢
    cases hx : x == c with
    | true =>
      rw [hx, cond_true] at h
      have := curS_len c r []
      rw [List.length_cons] at h
      omega
    | false =>
      rw [hx, cond_false] at h
      have ih := curN_same c r 0 (w ++ [x]) h
      rw [cond_false, ← ih, curN_zero, curN_zero]
      simp
  | x :: r, n + 1, w, h => by
    unfold curS at h ⊢
    unfold curN
    cases hx : x == c with
    | true =>
      rw [hx, cond_true, List.length_cons] at h
      rw [cond_true, cond_true, curN_same c r n [] (by omega)]
    | false =>
      rw [hx, cond_false] at h
      rw [cond_false, cond_false, curN_same c r (n + 1) _ h]
theorem curN_full (c : UInt8) : ∀ (r : Str) (n : Nat) (w : Str), n + 1 ≤ (curS c w r).length → (curN c n w r).length = n + 1
  | [], n, w, h => by
    simp [curS] at h
    subst h
    simp [curN]
  | x :: r, 0, w, h => by simp [curN]
  | x :: r, n + 1, w, h => by
    unfold curS at h
    unfold curN
    cases hx : x == c with
    | true =>
      rw [hx, cond_true, List.length_cons] at h
      rw [cond_true, List.length_cons, curN_full c r n [] (by omega)]
    | false =>
      rw [hx, cond_false] at h
      rw [cond_false, curN_full c r (n + 1) _ h]
theorem index_not {c : UInt8} {w : Str} (h : c ∉ w) : Lib.index w [c] = -1 := Lib.index_none fun j hj => by
  cases ho : Lib.occAt w [c] j with
  | false => rfl
  | true => exact absurd (List.mem_of_getElem? (Lib.occAt_head rfl ho)) h
theorem index_at {c : UInt8} {w r : Str} (h : c ∉ w) : Lib.index (w ++ c :: r) [c] = ((w.length : Nat) : Int) := Lib.index_first (by simp) (by simp [Lib.occAt, List.isPrefixOf]) fun j hj => by
  cases ho : Lib.occAt (w ++ c :: r) [c] j with
  | false => rfl
  | true =>
    have := Lib.occAt_head rfl ho
    rw [List.getElem?_append_left hj] at this
    exact absurd (List.mem_of_getElem? this) h
theorem split_cur (c : UInt8) : ∀ (r w : Str), c ∉ w → Lib.split (w ++ r) [c] = curS c w r
  | [], w, h => by
    unfold Lib.split curS
    rw [List.append_nil, Lib.count_miss (index_not h)]
    rfl
  | x :: r, w, h => by
    unfold curS
    cases hx : x == c with
    | true =>
      have e : x = c := by simpa using hx
      subst e
      have hi := index_at (r := r) h
      rw [cond_true]
      have ih := split_cur x r [] (by simp)
      unfold Lib.split at ih ⊢
      have hd : (w ++ x :: r).drop (w.length + 1) = r := by
        rw [show w ++ x :: r = (w ++ [x]) ++ r by simp, List.drop_left' (by simp)]
      have hc : Lib.count (w ++ x :: r) [x] = Lib.count r [x] + 1 := by
        rw [Lib.count_hit (by simp) hi]
        show 1 + Lib.count ((w ++ x :: r).drop (w.length + 1)) [x] = _
        rw [hd]
        omega
      rw [hc]
      unfold Lib.splitK
      rw [if_neg (by rw [hi]; simp), hi]
      have e1 : (w ++ x :: r).take (((w.length : Nat) : Int).toNat + 0) = w := by simp
      have e2 : (w ++ x :: r).drop (((w.length : Nat) : Int).toNat + [x].length) = r := hd
      rw [e1, e2]
      simp only [List.nil_append] at ih
      rw [ih]
    | false =>
      have hne : x ≠ c := by simpa using hx
      rw [cond_false, show w ++ x :: r = (w ++ [x]) ++ r by simp]
      exact split_cur c r (w ++ [x]) (by
        rw [List.mem_append, List.mem_singleton]
        rintro (h1 | h1)
        · exact h h1
        · exact hne h1.symm)
theorem split_eq (c : UInt8) (s : Str) : Lib.split s [c] = curS c [] s := split_cur c s [] (by simp)

theorem byte_eq (u c : UInt8) : (((UInt8.toNat u : Nat) : Int) == ((UInt8.toNat c : Nat) : Int)) = (u == c) := by
  have : ∀ b c : Bool, (b = true ↔ c = true) → b = c := by decide
  apply this
  rw [beq_iff_eq, beq_iff_eq, ← UInt8.toNat_inj]
  omega
theorem cut_l1 {s : Str} {c : UInt8} {most : Nat} (hs : s.length ≤ 1048576) (hm : most ≤ 1000) : ∀ (n : Nat) (out : List Str) (from_ i m : Nat), i + n = s.length → n < m → from_ ≤ i → out.length ≤ most →
    spec_l1Cut_l1 s c (most : Int) (fun y3 y6 y7 => (slM s y6 (s.length : Int)).bind fun q38 => (apM y3 [q38]).bind fun q43 => some q43) m out (from_ : Int) (i : Int) = some (out ++ curN c (most - out.length) ((s.take i).drop from_) (s.drop i))
  | n, out, f, i, 0, _, hm, _, _ => by omega
  | n, out, f, i, m + 1, hi, hn, hf, ho => by
    have hdone : (slM s (f : Int) (s.length : Int)).bind (fun q38 => (apM out [q38]).bind fun q43 => some q43) = some (out ++ [s.drop f]) := by
      rw [slM_drop (by omega), Option.bind_some, ap1 (by omega), Option.bind_some]
    have hw : (s.take i).drop f ++ s.drop i = s.drop f := by
      rw [← List.drop_append_of_le_length (by simp; omega), List.take_append_drop]
    simp only [spec_l1Cut_l1, jn]
    by_cases h1 : (i : Int) < (s.length : Int)
    case neg =>
      rw [decide_eq_false h1, cond_false, cond_false, hdone]
      have : s.drop i = [] := List.drop_eq_nil_of_le (by omega)
      rw [this] at hw ⊢
      rw [List.append_nil] at hw
      rw [hw]
      cases most - out.length <;> simp [curN]
    rw [decide_eq_true h1, cond_true]
    have hlt : i < s.length := by omega
    have hx : s[i]? = some s[i] := List.getElem?_eq_getElem hlt
    by_cases h2 : (out.length : Int) < (most : Int)
    case neg =>
      rw [decide_eq_false h2, cond_false, hdone]
      have : most - out.length = 0 := by omega
      rw [this, curN_zero, hw]
    obtain ⟨n, rfl⟩ : ∃ k, n = k + 1 := ⟨n - 1, by omega⟩
    obtain ⟨k, hk⟩ : ∃ k, most - out.length = k + 1 := ⟨most - out.length - 1, by omega⟩
    rw [decide_eq_true h2, cond_true, chM_of hx, Option.bind_some, byte_eq, hk, List.drop_eq_getElem_cons hlt]
    unfold curN
    cases hb : s[i] == c with
    | true =>
      rw [cond_true, cond_true, slM_of (by omega) (by omega) (by omega), Option.bind_some, ap1 (by omega), Option.bind_some, w64_ix hlt (by unfold maxi; omega), cut_l1 hs hm n _ (i + 1) (i + 1) m (by omega) (by omega) (by omega) (by simp; omega)]
      have e1 : most - (out ++ [((s.take ((i : Nat) : Int).toNat)).drop ((f : Nat) : Int).toNat]).length = k := by simp; omega
      have e2 : (s.take (i + 1)).drop (i + 1) = [] := List.drop_eq_nil_of_le (by simp; omega)
      rw [e1, e2]
      simp
    | false =>
      rw [cond_false, cond_false, w64_ix hlt (by unfold maxi; omega), cut_l1 hs hm n _ f (i + 1) m (by omega) (by omega) (by omega) ho, hk]
      have e2 : (s.take (i + 1)).drop f = (s.take i).drop f ++ [s[i]] := by
        rw [List.take_add_one, hx]
        rw [List.drop_append_of_le_length (by simp; omega)]
        rfl
      rw [e2]
theorem l1Cut_eq {s : Str} {c : UInt8} {most : Nat} (hs : s.length ≤ 1048576) (hm : most ≤ 1000) : spec_l1Cut s c (most : Int) = some (curN c most [] s) := by
  unfold spec_l1Cut
  simp only [jn]
  have := cut_l1 (c := c) (most := most) hs hm s.length [] 0 0 (s.length + 1) (by omega) (by omega) (Nat.le_refl _) (by simp)
  simpa using this

def pathB (s : Str) : Bool := decide ((curS 47 [] s).length ≤ 3) && (curS 47 [] s).all nameB
theorem curS_fit (c : UInt8) : ∀ (r w : Str), ∀ p ∈ curS c w r, p.length ≤ w.length + r.length
  | [], w, p, h => by simp [curS] at h; rw [h]; omega
  | x :: r, w, p, h => by
    unfold curS at h
    cases hx : x == c with
    | true =>
      rw [hx, cond_true] at h
      rcases List.mem_cons.1 h with e | e
      · rw [e]; omega
      · have := curS_fit c r [] p e
        simp at this ⊢
        omega
    | false =>
      rw [hx, cond_false] at h
      have := curS_fit c r (w ++ [x]) p h
      simp at this ⊢
      omega
theorem curS_long (c : UInt8) : ∀ (r w : Str), (curS c w r).length ≤ r.length + 1
  | [], w => by simp [curS]
  | x :: r, w => by
    unfold curS
    cases x == c
    · have := curS_long c r (w ++ [x]); simp at this ⊢; omega
    · have := curS_long c r []; simp at this ⊢; omega
theorem PathOk_eq {s : Str} (h : s.length ≤ 1048576) : impl_PathOk s = some (pathB s) := by
  unfold impl_PathOk strings_Split pathB
  rw [if_pos ⟨by omega, by simp⟩, Option.bind_some, split_eq]
  have hl := curS_long 47 s []
  by_cases h3 : (3 : Int) < ((curS 47 [] s).length : Int)
  · rw [decide_eq_true h3, cond_true, decide_eq_false (by omega)]; rfl
  rw [decide_eq_false h3, cond_false, decide_eq_true (by omega), Bool.true_and]
  simp only [jn, fuel0]
  rw [loop_list (α := Str) (xs := curS 47 [] s) (p := nameB) (r0 := some false) (Z := some true) (f := fun m i => impl_PathOk_l1 (curS 47 [] s) (fun _ _ => some true) m false i) (fun m i x hx => by
    have hf := curS_fit 47 s [] x (List.mem_of_getElem? hx)
    simp only [impl_PathOk_l1, lt_of hx, gi_of hx, cond_true, Option.bind_some, w64_ix (ix_of hx) (show (curS 47 [] s).length ≤ maxi by unfold maxi; omega), nameOk_eq (show x.length ≤ maxi by unfold maxi; simp at hf; omega)]
    cases nameB x <;> rfl) (fun m => by simp only [impl_PathOk_l1, end_of, cond_false]) (by omega)]
  cases (curS 47 [] s).all nameB <;> rfl
theorem curN_fit (c : UInt8) : ∀ (r : Str) (n : Nat) (w : Str), ∀ p ∈ curN c n w r, p.length ≤ w.length + r.length
  | [], n, w, p, h => by cases n <;> simp [curN] at h <;> rw [h] <;> omega
  | x :: r, 0, w, p, h => by simp [curN] at h; rw [h]; simp
  | x :: r, n + 1, w, p, h => by
    unfold curN at h
    cases hx : x == c with
    | true =>
      rw [hx, cond_true] at h
      rcases List.mem_cons.1 h with e | e
      · rw [e]; omega
      · have := curN_fit c r n [] p e
        simp at this ⊢
        omega
    | false =>
      rw [hx, cond_false] at h
      have := curN_fit c r (n + 1) (w ++ [x]) p h
      simp at this ⊢
      omega
theorem l4Path_eq {s : Str} (h : s.length ≤ 1048576) : spec_l4Path s = some (pathB s) := by
  unfold spec_l4Path pathB
  have e47 : (UInt8.ofNatLT 47 (by decide) : UInt8) = 47 := by decide
  have hc := l1Cut_eq (c := UInt8.ofNatLT 47 (by decide)) (most := 3) h (by omega)
  rw [show (3 : Int) = ((3 : Nat) : Int) from rfl, hc, Option.bind_some, e47]
  simp only [jn, fuel0]
  have hlen : (curN 47 3 [] s).length ≤ maxi := by
    rcases Nat.lt_or_ge (curS 47 [] s).length 4 with h1 | h1
    · rw [curN_same 47 s 3 [] (by omega)]; unfold maxi; omega
    · rw [curN_full 47 s 3 [] h1]; unfold maxi; omega
  rw [loop_list (α := Str) (xs := curN 47 3 [] s) (p := nameB) (r0 := some false) (Z := some (decide (((curN 47 3 [] s).length : Int) ≤ ((3 : Nat) : Int)))) (f := fun m i => spec_l4Path_l1 (curN 47 3 [] s) (fun _ _ => some (decide (((curN 47 3 [] s).length : Int) ≤ ((3 : Nat) : Int)))) m false i) (fun m i x hx => by
    have hf := curN_fit 47 s 3 [] x (List.mem_of_getElem? hx)
    simp only [spec_l4Path_l1, lt_of hx, gi_of hx, cond_true, Option.bind_some, w64_ix (ix_of hx) hlen, l4Name_eq (show x.length ≤ maxi by unfold maxi; simp at hf; omega)]
    cases nameB x <;> rfl) (fun m => by simp only [spec_l4Path_l1, end_of, cond_false]) (by omega)]
  rcases Nat.lt_or_ge (curS 47 [] s).length 4 with h1 | h1
  · rw [curN_same 47 s 3 [] (by omega), decide_eq_true (show ((curS 47 [] s).length : Int) ≤ ((3 : Nat) : Int) by omega), decide_eq_true (show (curS 47 [] s).length ≤ 3 by omega)]
    cases (curS 47 [] s).all nameB <;> rfl
  · rw [curN_full 47 s 3 [] h1, decide_eq_false (show ¬ (curS 47 [] s).length ≤ 3 by omega)]
    cases (curN 47 3 [] s).all nameB <;> rfl
end Go.Vm

namespace Go.Vm
open Go Go.Sx
set_option linter.unusedSimpArgs false
set_option linter.unusedVariables false

/-- Owners whose texts are no longer than a law's arguments. -/
def OB (xs : List Owner) : Prop := xs.length ≤ 1048576 ∧ ∀ x ∈ xs, x.Path.length ≤ 1048576 ∧ x.Who.length ≤ 1048576
theorem OB.of {xs : List Owner} (h : Bk.bulk xs ≤ 1048576) : OB xs := ⟨bulk_len h, fun x hx => by
  have h1 : Bk.bulk x ≤ 1048576 := bulk_mem h hx
  have h2 : Bk.bulk x = x.Path.length + x.Who.length := rfl
  omega⟩
/-- It is below. -/
def belowB (d p : Str) : Bool := (d ++ [47]).isPrefixOf p
end Go.Vm

namespace Go.Vm
open Go Go.Sx
set_option linter.unusedSimpArgs false
set_option linter.unusedVariables false

def noBar (s : Str) : Bool := s.all fun c => !(c == 124)
def barless (t : List Str) : Bool := t.all noBar
theorem join_flat (t : List Str) : Lib.join t [] = t.flatten := by
  cases t with
  | nil => rfl
  | cons x r =>
    have : ∀ (x : Str) (r : List Str), ([] : Str).intercalate (x :: r) = x ++ r.flatten := by
      intro x r
      induction r generalizing x with
      | nil => simp [List.intercalate]
      | cons y r ih =>
        have := ih y
        simp only [List.intercalate, List.intersperse, List.flatten_cons, List.nil_append] at this ⊢
        rw [this]
    exact this x r
theorem flat_len : ∀ t : List Str, t.flatten.length = sumB Bk.bulk t
  | [] => rfl
  | x :: t => by
    rw [List.flatten_cons, List.length_append, flat_len t]
    rfl
theorem contains_one (c : UInt8) (s : Str) : Lib.contains s [c] = decide (c ∈ s) := by
  unfold Lib.contains
  by_cases h : c ∈ s
  · obtain ⟨p, t, rfl, hp⟩ := List.eq_append_cons_of_mem h
    rw [index_at hp, decide_eq_true (show (0 : Int) ≤ ((p.length : Nat) : Int) by omega), decide_eq_true h]
  · rw [index_not h, decide_eq_false h]
    rfl
theorem bar_flat (t : List Str) : (!decide ((124 : UInt8) ∈ t.flatten)) = barless t := by
  have : ∀ b c : Bool, (b = true ↔ c = true) → b = c := by decide
  apply this
  simp only [Bool.not_eq_true', decide_eq_false_iff_not, List.mem_flatten, barless, noBar, List.all_eq_true, beq_eq_false_iff_ne]
  constructor
  · intro h s hs c hc e
    exact h ⟨s, hs, by rw [← e]; exact hc⟩
  · rintro h ⟨s, hs, hc⟩
    exact h s hs 124 hc rfl
theorem l19Lines_eq {t : List Str} (h : Bk.fit t) : spec_l19Lines t = some (barless t && textB t) := by
  have hl := fit_len h
  unfold spec_l19Lines barless
  simp only [jn, fuel0, l1Ok_eq h, Option.bind_some]
  rw [loop_list (α := Str) (xs := t) (p := noBar) (r0 := some false) (Z := some (textB t)) (f := fun m i => spec_l19Lines_l1 t (fun _ _ => some (textB t)) m false i) (fun m i x hx => by
    have hx2 : x.length ≤ maxi := fit_at h hx
    have b124 : ∀ u : UInt8, (((UInt8.toNat u : Nat) : Int) == (124 : Int)) = (u == 124) := fun u => by
      have hb := byte_eq u 124
      rw [show (((UInt8.toNat (124 : UInt8) : Nat) : Int)) = 124 from rfl] at hb
      exact hb
    simp only [spec_l19Lines_l1, lt_of hx, gi_of hx, cond_true, jn, Option.getD_some]
    rw [loop_list (α := UInt8) (xs := x) (p := fun c => !(c == 124)) (r0 := some false) (Z := spec_l19Lines_l1 t (fun _ _ => some (textB t)) m false ((i + 1 : Nat) : Int)) (f := fun m' k => spec_l19Lines_l2 t (i : Int) (fun y10 y11 => spec_l19Lines_l1 t (fun _ _ => some (textB t)) m y10 (w64 ((i : Int) + 1))) m' false k) (fun m' k c hc => by
      simp only [spec_l19Lines_l2, gi_of hx, Option.bind_some, lt_of hc, cond_true, chM_of hc, b124, w64_ix (ix_of hc) hx2]
      cases c == 124 <;> rfl) (fun m' => by simp only [spec_l19Lines_l2, gi_of hx, Option.bind_some, end_of, cond_false, w64_ix (ix_of hx) hl]) (by omega)]
    rfl) (fun m => by simp only [spec_l19Lines_l1, end_of, cond_false]) (by omega)]
  cases t.all noBar <;> rfl
/-- What is done is done rightly. -/
def opB (o : Op) : Bool :=
  nameB o.Branch && (nameB o.Who &&
    (bif o.Kind == 1 then pathB o.Path && (textB o.Text && (barless o.Text && (o.To == [] && o.At == 0)))
     else bif o.Kind == 2 then pathB o.Path && (o.To == [] && (o.At == 0 && (o.Text.length : Int) == 0))
     else bif o.Kind == 3 then pathB o.Path && (pathB o.To && (o.At == 0 && (o.Text.length : Int) == 0))
     else bif o.Kind == 4 || o.Kind == 5 then nameB o.To && (o.Path == [] && (o.At == 0 && (o.Text.length : Int) == 0))
     else bif o.Kind == 6 || o.Kind == 7 then (decide (0 ≤ o.At) && decide (o.At ≤ 15)) && (o.Path == [] && (o.To == [] && (o.Text.length : Int) == 0))
     else false))
structure OpFit (o : Op) : Prop where
  fit : Bk.fit o
  path : o.Path.length ≤ 1048576
  to : o.To.length ≤ 1048576
  text : Bk.bulk o.Text ≤ 1048576
theorem OpFit.of {o : Op} (h : Bk.fit o) (hb : Bk.bulk o ≤ 1048576) : OpFit o := by
  have e : Bk.bulk o = Bk.bulk o.Kind + (Bk.bulk o.Branch + (Bk.bulk o.Who + (Bk.bulk o.Path + (Bk.bulk o.To + (Bk.bulk o.At + Bk.bulk o.Text))))) := rfl
  have e1 : Bk.bulk o.Path = o.Path.length := rfl
  have e2 : Bk.bulk o.To = o.To.length := rfl
  exact ⟨h, by omega, by omega, by omega⟩
theorem Bare_eq (o : Op) (p q r s : Bool) : spec_l19Bare o p q r s = some ((p || o.Path == []) && ((q || o.To == []) && ((r || o.At == 0) && (s || (o.Text.length : Int) == 0)))) := by
  unfold spec_l19Bare
  simp only [jn]
  cases p <;> cases q <;> cases r <;> cases s <;> cases (o.Path == ([] : Str)) <;> cases (o.To == ([] : Str)) <;> cases ((o.At : Int) == (0 : Int)) <;> rfl
theorem iOpOk_eq {o : Op} (h : OpFit o) : impl_OpOk o = some (opB o) := by
  obtain ⟨f0, f1, f2, f3, f4, f5, f6⟩ := h.fit
  have ht := h.text
  have hj : strings_Join o.Text ([] : Str) = some o.Text.flatten := by
    unfold strings_Join
    have := bulk_len ht
    have hs : sumB Bk.bulk o.Text ≤ 1048576 := Nat.le_trans (Nat.le_add_left _ _) ht
    rw [join_flat, if_pos ⟨by omega, by rw [flat_len]; omega⟩]
  have hc : strings_Contains o.Text.flatten ([124] : Str) = some (decide ((124 : UInt8) ∈ o.Text.flatten)) := by
    unfold strings_Contains
    have hs : sumB Bk.bulk o.Text ≤ 1048576 := Nat.le_trans (Nat.le_add_left _ _) ht
    rw [if_pos (by rw [flat_len]; omega), contains_one]
  unfold impl_OpOk opB
  simp only [jn, nameOk_eq f1, nameOk_eq f2, nameOk_eq f4, PathOk_eq h.path, PathOk_eq h.to, TextOk_eq f6, hj, hc, Option.bind_some, within_eq, bar_flat]
  cases nameB o.Branch
  · rfl
  cases nameB o.Who
  · rfl
  simp only [Bool.not_true, cond_false, Bool.true_and]
  cases (o.Kind == (1 : Int))
  case true => cases pathB o.Path <;> cases textB o.Text <;> cases barless o.Text <;> cases (o.To == ([] : Str)) <;> rfl
  cases (o.Kind == (2 : Int))
  case true => cases pathB o.Path <;> cases (o.To == ([] : Str)) <;> cases (o.At == (0 : Int)) <;> rfl
  cases (o.Kind == (3 : Int))
  case true => cases pathB o.Path <;> cases pathB o.To <;> cases (o.At == (0 : Int)) <;> rfl
  simp only [cond_false]
  cases (o.Kind == (4 : Int)) <;> cases (o.Kind == (5 : Int)) <;> cases (o.Kind == (6 : Int)) <;> cases (o.Kind == (7 : Int)) <;> cases nameB o.To <;> cases (o.Path == ([] : Str)) <;> cases (o.At == (0 : Int)) <;> cases (o.To == ([] : Str)) <;> cases (decide (0 ≤ o.At) && decide (o.At ≤ 15)) <;> rfl
theorem l19Ok_eq {o : Op} (h : OpFit o) : spec_l19Ok o = some (opB o) := by
  obtain ⟨f0, f1, f2, f3, f4, f5, f6⟩ := h.fit
  unfold spec_l19Ok opB
  simp only [jn, l4Name_eq f1, l4Name_eq f2, l4Name_eq f4, l4Path_eq h.path, l4Path_eq h.to, l19Lines_eq f6, Bare_eq, Option.bind_some, l1In_eq]
  cases nameB o.Branch
  · rfl
  cases nameB o.Who
  · rfl
  simp only [Bool.not_true, cond_false, Bool.true_and, Bool.true_or, Bool.false_or, Bool.and_true]
  cases (o.Kind == (1 : Int))
  case true => cases pathB o.Path <;> cases textB o.Text <;> cases barless o.Text <;> cases (o.To == ([] : Str)) <;> cases (o.At == (0 : Int)) <;> rfl
  cases (o.Kind == (2 : Int))
  case true => cases pathB o.Path <;> cases (o.To == ([] : Str)) <;> cases (o.At == (0 : Int)) <;> cases ((o.Text.length : Int) == 0) <;> rfl
  cases (o.Kind == (3 : Int))
  case true => cases pathB o.Path <;> cases pathB o.To <;> cases (o.At == (0 : Int)) <;> cases ((o.Text.length : Int) == 0) <;> rfl
  simp only [cond_false]
  cases (o.Kind == (4 : Int)) <;> cases (o.Kind == (5 : Int)) <;> cases (o.Kind == (6 : Int)) <;> cases (o.Kind == (7 : Int)) <;> cases nameB o.To <;> cases (o.Path == ([] : Str)) <;> cases (o.At == (0 : Int)) <;> cases (o.To == ([] : Str)) <;> cases ((o.Text.length : Int) == 0) <;> cases (decide (0 ≤ o.At) && decide (o.At ≤ 15)) <;> rfl
end Go.Vm

namespace Go.Vm
open Go Go.Sx
set_option linter.unusedSimpArgs false
set_option linter.unusedVariables false

theorem sOpOk_eq {o : Op} (h : OpFit o) : spec_OpOk o = some (opB o) := by
  unfold spec_OpOk
  rw [l19Ok_eq h]
  rfl
end Go.Vm

namespace Go.Vm
open Go Go.Sx
set_option linter.unusedSimpArgs false
set_option linter.unusedVariables false

theorem saM_of {a b : Str} (h : a.length + b.length ≤ 1000000000) : saM a b = some (a ++ b) := by
  unfold saM
  rw [if_pos]
  simp only [lim]
  omega
def barsL (t : List Str) : Str := (t.map fun s => (124 : UInt8) :: s).flatten
theorem join_l1 {t : List Str} (ht : t.length ≤ 10000000) : ∀ (n i m : Nat) (out : Str), i + n = t.length → n < m → out.length + (barsL (t.drop i)).length ≤ 1000000000 →
    impl_joinLines_l1 t (fun y1 _ => some y1) m out (i : Int) = some (out ++ barsL (t.drop i))
  | n, i, 0, out, _, hm, _ => by omega
  | 0, i, m + 1, out, hi, _, _ => by
    obtain rfl : i = t.length := by omega
    simp only [impl_joinLines_l1, end_of, cond_false, List.drop_length]
    simp [barsL]
  | n + 1, i, m + 1, out, hi, hm, hb => by
    have hlt : i < t.length := by omega
    have hx : t[i]? = some t[i] := List.getElem?_eq_getElem hlt
    have hd : t.drop i = t[i] :: t.drop (i + 1) := List.drop_eq_getElem_cons hlt
    have hbe : barsL (t.drop i) = (124 :: t[i]) ++ barsL (t.drop (i + 1)) := by rw [hd]; rfl
    rw [hbe] at hb
    simp only [List.length_append, List.length_cons] at hb
    simp only [impl_joinLines_l1, lt_of hx, gi_of hx, cond_true, Option.bind_some, w64_ix hlt (show t.length ≤ maxi by unfold maxi; omega)]
    rw [saM_of (by simp only [List.length_cons, List.length_nil]; omega), Option.bind_some, saM_of (by simp only [List.length_append, List.length_cons, List.length_nil]; omega), Option.bind_some,
      join_l1 ht n (i + 1) m _ (by omega) (by omega) (by simp only [List.length_append, List.length_cons, List.length_nil]; omega), hbe]
    simp
theorem put_l1 {o : Op} (ht : o.Text.length ≤ 10000000) : ∀ (n i m : Nat) (out : Str), i + n = o.Text.length → n < m → out.length + (barsL (o.Text.drop i)).length ≤ 1000000000 →
    spec_l19Put_l1 o (fun y => some y) m out (i : Int) = some (out ++ barsL (o.Text.drop i))
  | n, i, 0, out, _, hm, _ => by omega
  | 0, i, m + 1, out, hi, _, _ => by
    obtain rfl : i = o.Text.length := by omega
    simp only [spec_l19Put_l1, end_of, cond_false, List.drop_length]
    simp [barsL]
  | n + 1, i, m + 1, out, hi, hm, hb => by
    have hlt : i < o.Text.length := by omega
    have hx : o.Text[i]? = some o.Text[i] := List.getElem?_eq_getElem hlt
    have hd : o.Text.drop i = o.Text[i] :: o.Text.drop (i + 1) := List.drop_eq_getElem_cons hlt
    have hbe : barsL (o.Text.drop i) = (124 :: o.Text[i]) ++ barsL (o.Text.drop (i + 1)) := by rw [hd]; rfl
    rw [hbe] at hb
    simp only [List.length_append, List.length_cons] at hb
    simp only [spec_l19Put_l1, lt_of hx, gi_of hx, cond_true, Option.bind_some, w64_ix hlt (show o.Text.length ≤ maxi by unfold maxi; omega)]
    rw [saM_of (by simp only [List.length_cons, List.length_nil]; omega), Option.bind_some, saM_of (by simp only [List.length_append, List.length_cons, List.length_nil]; omega), Option.bind_some,
      put_l1 ht n (i + 1) m _ (by omega) (by omega) (by simp only [List.length_append, List.length_cons, List.length_nil]; omega), hbe]
    simp
theorem bars_len : ∀ t : List Str, (barsL t).length = Bk.bulk t
  | [] => rfl
  | x :: t => by
    have ih := bars_len t
    have h1 : barsL (x :: t) = (124 :: x) ++ barsL t := rfl
    have h2 : Bk.bulk (x :: t) = (t.length + 1) + (x.length + sumB Bk.bulk t) := rfl
    have h3 : Bk.bulk t = t.length + sumB Bk.bulk t := rfl
    rw [h1, List.length_append, ih, List.length_cons, h2, h3]
    omega
theorem dec_small (k : Nat) (hk : k < 16) : spec_l1Dec (k : Int) = some (Lib.decDigits k) := by
  have hd : Lib.decDigits k = if k < 10 then [UInt8.ofNat (48 + k)] else [UInt8.ofNat (48 + k / 10), UInt8.ofNat (48 + k % 10)] := by
    rw [Lib.decDigits]
    split
    · rfl
    · rw [Lib.decDigits, dif_pos (by omega)]
      rfl
  rw [hd]
  clear hd
  revert k
  decide +kernel
theorem dec_len (k : Nat) (hk : k < 16) : (Lib.decDigits k).length ≤ 2 := by
  rw [Lib.decDigits]
  split
  · simp
  · rw [Lib.decDigits, dif_pos (by omega)]; simp
def wordsL : List Str := [[], [115, 101, 116], [100, 114, 111, 112], [109, 111, 118, 101], [102, 111, 114, 107], [117, 110, 105, 116, 101], [112, 105, 99, 107], [98, 97, 99, 107]]
theorem name_len {s : Str} (h : nameB s = true) : s.length ≤ 6 := by
  unfold nameB at h
  simp only [Bool.and_eq_true, decide_eq_true_eq] at h
  omega
theorem opB_kind {o : Op} (h : opB o = true) : o.Branch.length ≤ 6 ∧ o.Who.length ≤ 6 ∧ (o.Kind = 1 ∨ o.Kind = 2 ∨ o.Kind = 3 ∨ o.Kind = 4 ∨ o.Kind = 5 ∨ ((o.Kind = 6 ∨ o.Kind = 7) ∧ 0 ≤ o.At ∧ o.At ≤ 15)) := by
  unfold opB at h
  simp only [Bool.and_eq_true] at h
  obtain ⟨h1, h2, h3⟩ := h
  refine ⟨name_len h1, name_len h2, ?_⟩
  cases e1 : o.Kind == 1 with
  | true => exact .inl (by simpa using e1)
  | false =>
  rw [e1, cond_false] at h3
  cases e2 : o.Kind == 2 with
  | true => exact .inr (.inl (by simpa using e2))
  | false =>
  rw [e2, cond_false] at h3
  cases e3 : o.Kind == 3 with
  | true => exact .inr (.inr (.inl (by simpa using e3)))
  | false =>
  rw [e3, cond_false] at h3
  cases e4 : o.Kind == 4 with
  | true => exact .inr (.inr (.inr (.inl (by simpa using e4))))
  | false =>
  cases e5 : o.Kind == 5 with
  | true => exact .inr (.inr (.inr (.inr (.inl (by simpa using e5)))))
  | false =>
  rw [e4, e5, Bool.or_false, cond_false] at h3
  cases e6 : (o.Kind == 6 || o.Kind == 7) with
  | false => rw [e6, cond_false] at h3; cases h3
  | true =>
    rw [e6, cond_true] at h3
    simp only [Bool.and_eq_true, decide_eq_true_eq] at h3
    exact .inr (.inr (.inr (.inr (.inr ⟨by simpa using e6, h3.1.1, h3.1.2⟩))))
/-- How it is written. -/
def putS (o : Op) : Str :=
  let w := wordsL.getD o.Kind.toNat [] ++ [32] ++ o.Branch ++ [32] ++ o.Who ++ [32]
  bif o.Kind == 1 then w ++ o.Path ++ [32] ++ barsL o.Text
  else bif o.Kind == 2 then w ++ o.Path
  else bif o.Kind == 3 then w ++ o.Path ++ [32] ++ o.To
  else bif o.Kind == 4 || o.Kind == 5 then w ++ o.To
  else w ++ Lib.decDigits o.At.toNat
theorem iPut_eq {o : Op} (h : OpFit o) (ho : opB o = true) : impl_opPut o = some (putS o) := by
  obtain ⟨hb, hw, hk⟩ := opB_kind ho
  have hp := h.path
  have ht := h.to
  have hx := h.text
  have hl := bulk_len hx
  have hbl := bars_len o.Text
  have hj : impl_joinLines o.Text = some (barsL o.Text) := by
    unfold impl_joinLines
    simp only [jn, fuel0]
    have := join_l1 (t := o.Text) (by omega) o.Text.length 0 (o.Text.length + 1) [] (by omega) (by omega) (by rw [List.drop_zero, hbl]; simp; omega)
    simpa using this
  unfold impl_opPut putS impl_opWords
  rcases hk with e | e | e | e | e | ⟨e | e, h0, h1⟩
  all_goals simp only [e, Option.bind_some, jn]
  all_goals simp (disch := (simp only [List.length_append, List.length_cons, List.length_nil]; omega)) only [gi, wordsL, saM_of, Option.bind_some, hj, Int.reduceToNat, Int.reduceLE, ↓reduceIte, List.getElem?_cons_succ, List.getElem?_cons_zero, List.getD_cons_succ, List.getD_cons_zero, Int.reduceBEq, cond_true, cond_false, Bool.or_false, Bool.or_true, Bool.false_or]
  all_goals
    have hd := dec_len o.At.toNat (by omega)
    have hi : strconv_Itoa o.At = some (Lib.decDigits o.At.toNat) := by unfold strconv_Itoa; rw [if_pos ⟨by omega, by omega⟩]
    rw [hi, Option.bind_some, saM_of (by simp only [List.length_append, List.length_cons, List.length_nil]; omega), Option.bind_some]
theorem sPut_eq {o : Op} (h : OpFit o) (ho : opB o = true) : spec_l19Put o = some (putS o) := by
  obtain ⟨hb, hw, hk⟩ := opB_kind ho
  have hp := h.path
  have ht := h.to
  have hx := h.text
  have hl := bulk_len hx
  have hbl := bars_len o.Text
  have hj : ∀ out : Str, out.length ≤ 10000000 → spec_l19Put_l1 o (fun y => some y) (o.Text.length + 1) out 0 = some (out ++ barsL o.Text) := fun out hout => by
    have := put_l1 (o := o) (by omega) o.Text.length 0 (o.Text.length + 1) out (by omega) (by omega) (by rw [List.drop_zero, hbl]; omega)
    simpa using this
  unfold spec_l19Put putS spec_l19Words
  rcases hk with e | e | e | e | e | ⟨e | e, h0, h1⟩
  all_goals simp only [e, Option.bind_some, jn, fuel0]
  all_goals simp (disch := (simp only [List.length_append, List.length_cons, List.length_nil]; omega)) only [gi, wordsL, saM_of, Option.bind_some, hj, Int.reduceToNat, Int.reduceLE, ↓reduceIte, List.getElem?_cons_succ, List.getElem?_cons_zero, List.getD_cons_succ, List.getD_cons_zero, Int.reduceBEq, cond_true, cond_false, Bool.or_false, Bool.or_true, Bool.false_or]
  all_goals
    have hd := dec_len o.At.toNat (by omega)
    have hi : spec_l1Dec o.At = some (Lib.decDigits o.At.toNat) := by
      have := dec_small o.At.toNat (by omega)
      rwa [Int.toNat_of_nonneg h0] at this
    rw [hi, Option.bind_some, saM_of (by simp only [List.length_append, List.length_cons, List.length_nil]; omega), Option.bind_some]
def opPutB (o : Op) : Str := bif opB o then putS o else []
theorem iOpPut_eq {o : Op} (h : OpFit o) : impl_OpPut o = some (opPutB o) := by
  unfold impl_OpPut opPutB
  rw [iOpOk_eq h, Option.bind_some]
  cases ho : opB o with
  | false => rfl
  | true => rw [Bool.not_true, cond_false, iPut_eq h ho]; rfl
theorem sOpPut_eq {o : Op} (h : OpFit o) : spec_OpPut o = some (opPutB o) := by
  unfold spec_OpPut opPutB
  rw [l19Ok_eq h, Option.bind_some]
  cases ho : opB o with
  | false => rfl
  | true => rw [Bool.not_true, cond_false, sPut_eq h ho]; rfl
end Go.Vm

namespace Go.Vm
open Go Go.Sx
set_option linter.unusedSimpArgs false
set_option linter.unusedVariables false

/-- Files whose parts are no longer than a law's arguments. -/
structure FB (f : File) : Prop where
  path : f.Path.length ≤ 1048576
  len : f.Text.length ≤ 1048576
  text : Bk.fit f.Text
def TB (t : List File) : Prop := t.length ≤ 1048576 ∧ ∀ f ∈ t, FB f
theorem TB.maxi {t : List File} (h : TB t) : t.length ≤ maxi := to_maxi h.1
theorem TB.nil : TB [] := ⟨by simp, fun f hf => by simp at hf⟩
def noFile : File := ⟨[], []⟩
theorem getF_of {t : List File} {i : Nat} {f : File} (h : t[i]? = some f) : t.getD i noFile = f := by simp [List.getD, h]
def fileB (t : List File) (i : Nat) : Bool := pathB (t.getD i noFile).Path && (textB (t.getD i noFile).Text && (bif decide (0 < (i : Int)) then Op.bytesLess (t.getD (i - 1) noFile).Path (t.getD i noFile).Path else true))
def sTree (t : List File) (i : Nat) : Bool := fileB t i && t.all fun f => !belowB (t.getD i noFile).Path f.Path
/-- It is a tree. -/
def treeB (t : List File) : Bool := decide ((t.length : Int) ≤ 8) && allN (sTree t) 0 t.length
end Go.Vm

namespace Go.Vm
open Go Go.Sx
set_option linter.unusedSimpArgs false
set_option linter.unusedVariables false

structure CB (c : Commit) : Prop where
  par : c.Parents.length ≤ 1048576
  who : c.Who.length ≤ 1048576
  tree : TB c.Tree
structure RpB (r : Repo) : Prop where
  coms : r.Commits.length ≤ 1048576
  com : ∀ c ∈ r.Commits, CB c
  heads : r.Heads.length ≤ 1048576
  head : ∀ h ∈ r.Heads, h.Name.length ≤ 1048576
theorem RpB.cat {r : Repo} (h : RpB r) {i : Nat} {c : Commit} (hc : r.Commits[i]? = some c) : CB c := h.com c (List.mem_of_getElem? hc)
def noHead : Head := ⟨[], 0⟩
def upB (i p : Int) : Bool := decide (0 ≤ p) && decide (p ≤ i - 1)
def twoB (ps : List Int) : Bool := match ps with
  | [p, q] => !(p == q)
  | _ => true
def comB (i : Int) (c : Commit) : Bool := c.Parents.all (upB i) && (decide ((c.Parents.length : Int) ≤ 2) && (twoB c.Parents && (nameB c.Who && treeB c.Tree)))
def noCommit : Commit := ⟨[], [], []⟩
def comsB (cs : List Commit) : Bool := allN (fun i => comB i (cs.getD i noCommit)) 0 cs.length
def headB (n : Nat) (hs : List Head) (i : Nat) : Bool := nameB (hs.getD i noHead).Name && (upB n (hs.getD i noHead).At && (bif decide (0 < (i : Int)) then Op.bytesLess (hs.getD (i - 1) noHead).Name (hs.getD i noHead).Name else true))
def headsB (n : Nat) (hs : List Head) : Bool := allN (headB n hs) 0 hs.length && decide ((hs.length : Int) ≤ 5)
/-- It is a repository. -/
def repoB (r : Repo) : Bool := decide ((r.Commits.length : Int) ≤ 16) && (comsB r.Commits && headsB r.Commits.length r.Heads)
theorem getC_of {t : List Commit} {i : Nat} {f : Commit} (h : t[i]? = some f) : t.getD i noCommit = f := by simp [List.getD, h]
end Go.Vm

namespace Go.Vm
open Go Go.Sx
set_option linter.unusedSimpArgs false
set_option linter.unusedVariables false

def putH (n : Str) (a : Int) : Bool → List Head → List Head
  | put, [] => bif put then [] else [⟨n, a⟩]
  | put, h :: hs => (bif !put && !Op.bytesLess h.Name n then [⟨n, a⟩] else []) ++ ((bif h.Name != n then [h] else []) ++ putH n a (put || !Op.bytesLess h.Name n) hs)
theorem putH_len (n : Str) (a : Int) : ∀ (hs : List Head) (put : Bool), (putH n a put hs).length + (bif put then 1 else 0) ≤ hs.length + 1
  | [], put => by cases put <;> simp [putH]
  | h :: hs, put => by
    have ih := putH_len n a hs (put || !Op.bytesLess h.Name n)
    unfold putH
    cases put <;> cases hb : Op.bytesLess h.Name n <;> cases hn : (h.Name != n) <;> simp [hb] at ih ⊢ <;> omega
theorem putH_mem (n : Str) (a : Int) : ∀ (hs : List Head) (put : Bool) (x : Head), x ∈ putH n a put hs → x ∈ hs ∨ x = ⟨n, a⟩
  | [], put, x, h => by cases put <;> simp [putH] at h; exact .inr h
  | h :: hs, put, x, hx => by
    unfold putH at hx
    rcases List.mem_append.1 hx with h1 | h1
    · cases hc : (!put && !Op.bytesLess h.Name n) with
      | true => rw [hc] at h1; simp at h1; exact .inr h1
      | false => rw [hc] at h1; simp at h1
    · rcases List.mem_append.1 h1 with h2 | h2
      · cases hc : (h.Name != n) with
        | true => rw [hc] at h2; simp at h2; exact .inl (by rw [h2]; simp)
        | false => rw [hc] at h2; simp at h2
      · rcases putH_mem n a hs _ x h2 with h3 | h3
        · exact .inl (List.mem_cons_of_mem _ h3)
        · exact .inr h3
def headR (r : Repo) (n : Str) (a : Int) : Repo := ⟨r.Commits, putH n a false r.Heads⟩
theorem RpB.headR {r : Repo} (h : RpB r) (hs : r.Heads.length ≤ 100000) {n : Str} (hn : n.length ≤ 1048576) (a : Int) : RpB (headR r n a) :=
  ⟨h.coms, h.com, by have := putH_len n a r.Heads false; simp at this; show (putH n a false r.Heads).length ≤ _; omega, fun x hx => by
    rcases putH_mem n a r.Heads false x hx with h1 | h1
    · exact h.head x h1
    · rw [h1]; exact hn⟩
theorem repo_small {r : Repo} (h : repoB r = true) : r.Commits.length ≤ 16 ∧ r.Heads.length ≤ 5 := by
  unfold repoB headsB at h
  simp only [Bool.and_eq_true, decide_eq_true_eq] at h
  omega
theorem tree_small {t : List File} (h : treeB t = true) : t.length ≤ 8 := by
  unfold treeB at h
  simp only [Bool.and_eq_true, decide_eq_true_eq] at h
  omega
end Go.Vm

namespace Go.Vm
open Go Go.Sx
set_option linter.unusedSimpArgs false
set_option linter.unusedVariables false

theorem repo_com {r : Repo} (h : repoB r = true) {i : Nat} (hi : i < r.Commits.length) : comB i (r.Commits.getD i noCommit) = true := by
  unfold repoB comsB at h
  simp only [Bool.and_eq_true] at h
  exact allN_iff.1 h.2.1 i (Nat.zero_le _) (by omega)
def parsAt (r : Repo) (i : Nat) : List Int := (r.Commits.getD i noCommit).Parents
end Go.Vm

namespace Go.Vm
open Go Go.Sx
set_option linter.unusedSimpArgs false
set_option linter.unusedVariables false

def textsB (t : List File) : Prop := ∀ f ∈ t, textB f.Text = true
theorem tree_texts {t : List File} (h : treeB t = true) : textsB t := by
  intro f hf
  obtain ⟨i, hi⟩ := List.mem_iff_getElem?.1 hf
  unfold treeB at h
  simp only [Bool.and_eq_true] at h
  have := allN_iff.1 h.2 i (Nat.zero_le _) (by have := ix_of hi; omega)
  unfold sTree fileB at this
  rw [getF_of hi] at this
  simp only [Bool.and_eq_true] at this
  exact this.1.2.1
end Go.Vm

namespace Go.Vm
open Go Go.Sx
set_option linter.unusedSimpArgs false
set_option linter.unusedVariables false

theorem curS_sum (c : UInt8) : ∀ (r w : Str), w.length + r.length + 1 = sumB (fun p => p.length + 1) (curS c w r)
  | [], w => by simp [curS, sumB]
  | x :: r, w => by
    unfold curS
    cases x == c with
    | true =>
      rw [cond_true]
      have := curS_sum c r []
      simp only [sumB, List.length_nil, List.length_cons] at this ⊢
      omega
    | false =>
      rw [cond_false]
      have := curS_sum c r (w ++ [x])
      simp only [List.length_append, List.length_cons, List.length_nil] at this ⊢
      omega
theorem sum_le {c : Nat} : ∀ {l : List Str}, (∀ p ∈ l, p.length + 1 ≤ c) → sumB (fun p => p.length + 1) l ≤ c * l.length
  | [], _ => by simp [sumB]
  | x :: l, h => by
    have h1 := h x (by simp)
    have h2 := sum_le (c := c) (l := l) (fun p hp => h p (List.mem_cons_of_mem _ hp))
    simp only [sumB, List.length_cons, Nat.mul_add, Nat.mul_one]
    omega
theorem nameB_len {s : Str} (h : nameB s = true) : s.length ≤ 6 := by
  unfold nameB at h
  simp only [Bool.and_eq_true, decide_eq_true_eq] at h
  omega
theorem path_len {s : Str} (h : pathB s = true) : s.length ≤ 20 := by
  unfold pathB at h
  simp only [Bool.and_eq_true, decide_eq_true_eq, List.all_eq_true] at h
  have h1 := curS_sum 47 s []
  have h2 := sum_le (c := 7) (l := curS 47 [] s) (fun p hp => by have := nameB_len (h.2 p hp); omega)
  simp only [List.length_nil] at h1
  omega
end Go.Vm

namespace Go.Vm
open Go Go.Sx
set_option linter.unusedSimpArgs false
set_option linter.unusedVariables false

/-- A repository that is well made. -/
structure Good (r : Repo) : Prop where
  rb : RpB r
  ok : repoB r = true
  hd : r.Commits ≠ [] → r.Heads ≠ []
def treeAt (r : Repo) (i : Nat) : List File := (r.Commits.getD i noCommit).Tree
theorem Good.tree {r : Repo} (h : Good r) {i : Nat} (hi : i < r.Commits.length) : TB (treeAt r i) ∧ treeB (treeAt r i) = true ∧ textsB (treeAt r i) ∧ (treeAt r i).length ≤ 8 := by
  have hx : r.Commits[i]? = some r.Commits[i] := List.getElem?_eq_getElem hi
  have h1 : treeB (treeAt r i) = true := by
    have := repo_com h.ok hi
    unfold comB at this
    simp only [Bool.and_eq_true] at this
    exact this.2.2.2.2
  refine ⟨?_, h1, tree_texts h1, tree_small h1⟩
  unfold treeAt
  rw [getC_of hx]
  exact (h.rb.cat hx).tree
theorem putH_ne (n : Str) (a : Int) : ∀ (hs : List Head), putH n a false hs ≠ []
  | [] => by simp [putH]
  | h :: hs => by
    unfold putH
    cases hb : Op.bytesLess h.Name n
    · simp
    · have := putH_ne n a hs
      cases (h.Name != n) <;> simp [this]
theorem Good.head {r : Repo} (h : Good r) {n : Str} {b : Int} (hn : n.length ≤ 1048576) (ho : repoB (headR r n b) = true) : Good (headR r n b) := by
  obtain ⟨s1, s2⟩ := repo_small h.ok
  exact ⟨h.rb.headR (by omega) hn b, ho, fun _ => putH_ne _ _ _⟩
end Go.Vm

namespace Go.Vm
open Go Go.Sx
set_option linter.unusedSimpArgs false
set_option linter.unusedVariables false

/-- What is to be done, that is short. -/
def OpL (o : Op) : Prop := Bk.fit o ∧ Bk.bulk o ≤ 1000000
section
variable {r : l30Rd} {p : Int}
theorem rd_on {q k : Int} (h : RdOk r p) (hk : 0 ≤ k) (hq : p + k ≤ q) : RdOk ⟨r.b, r.p + k⟩ q := h.on k hk (by have := h.2.2; omega)
theorem branch_eq (h : RdOk r p) (hp : p ≤ 1000000000) : ∃ s, spec_l30Branch r = some (s, r.p + 1) ∧ s.length ≤ 10 := by
  unfold spec_l30Branch
  obtain ⟨s, e, hm⟩ := of_eq h (by omega) (l := [([109, 97, 105, 110] : Str), ([109, 97, 105, 110] : Str), ([115, 105, 100, 101] : Str), ([100, 101, 118] : Str)]) (by simp) (by simp)
  refine ⟨s, by rw [e]; rfl, ?_⟩
  simp only [List.mem_cons, List.not_mem_nil, or_false] at hm
  rcases hm with e | e | e | e <;> rw [e] <;> simp
theorem path_eq (h : RdOk r p) (hp : p ≤ 1000000000) : ∃ s, spec_l30Path r = some (s, r.p + 1) ∧ s.length ≤ 10 := by
  unfold spec_l30Path
  obtain ⟨s, e, hm⟩ := of_eq h (by omega) (l := [([97] : Str), ([98] : Str), ([100, 47, 101] : Str), ([100, 47, 102] : Str), ([103, 47, 104, 47, 105] : Str), ([103, 47, 107] : Str), ([122] : Str)]) (by simp) (by simp)
  refine ⟨s, by rw [e]; rfl, ?_⟩
  simp only [List.mem_cons, List.not_mem_nil, or_false] at hm
  rcases hm with e | e | e | e | e | e | e <;> rw [e] <;> simp
theorem opL_of {k a : Int} {b w q t : Str} {l : List Str} (hk : 0 ≤ k ∧ k ≤ 100) (ha : 0 ≤ a ∧ a ≤ 100) (h1 : b.length ≤ 10) (h2 : w.length ≤ 10) (h3 : q.length ≤ 10) (h4 : t.length ≤ 10) (h5 : LB 8 l) : OpL ⟨k, b, w, q, t, a, l⟩ := by
  have hb := h5.bulk
  refine ⟨⟨?_, ?_, ?_, ?_, ?_, ?_, h5.fit (by omega)⟩, ?_⟩
  · show -9223372036854775808 ≤ k ∧ k ≤ 9223372036854775807; omega
  · show b.length ≤ maxi; unfold maxi; omega
  · show w.length ≤ maxi; unfold maxi; omega
  · show q.length ≤ maxi; unfold maxi; omega
  · show t.length ≤ maxi; unfold maxi; omega
  · show -9223372036854775808 ≤ a ∧ a ≤ 9223372036854775807; omega
  · show 0 + (b.length + (w.length + (q.length + (t.length + (0 + Bk.bulk l))))) ≤ _
    omega
theorem lb_nil : LB 8 ([] : List Str) := ⟨by simp, fun s hs => by simp at hs⟩
theorem op_eq (h : RdOk r p) (hp : p ≤ 1000000) : ∃ o q, spec_l30Op r = some (o, q) ∧ OpL o ∧ RdOk ⟨r.b, q⟩ (p + 100) := by
  unfold spec_l30Op
  obtain ⟨b, e1, hb⟩ := branch_eq h (by omega)
  have h1 := rd_on (q := p + 1) h (k := 1) (by omega) (by omega)
  obtain ⟨w, e2, hw⟩ := of_eq h1 (by omega) (l := [([97, 110, 110] : Str), ([98, 111, 98] : Str), ([99, 105, 100] : Str)]) (by simp) (by simp)
  have hwl : w.length ≤ 10 := by
    simp only [List.mem_cons, List.not_mem_nil, or_false] at hw
    rcases hw with e | e | e <;> rw [e] <;> simp
  have h2 := rd_on (q := p + 2) h1 (k := 1) (by omega) (by omega)
  obtain ⟨k, e3, k0, k1⟩ := pick_eq h2 (n := 12) (by omega) (by omega) (by omega)
  have h3 := rd_on (q := p + 3) h2 (k := 1) (by omega) (by omega)
  rw [e1, Option.bind_some, e2, Option.bind_some]
  simp only [jn, e3, Option.bind_some]
  obtain ⟨pa, e4, hpa⟩ := path_eq h3 (by omega)
  have h4 := rd_on (q := p + 4) h3 (k := 1) (by omega) (by omega)
  obtain ⟨pb, e5, hpb⟩ := path_eq h4 (by omega)
  have h5 := rd_on (q := p + 5) h4 (k := 1) (by omega) (by omega)
  obtain ⟨fo, e6, hfo⟩ := of_eq h3 (by omega) (l := [([115, 105, 100, 101] : Str), ([100, 101, 118] : Str), ([111, 108, 100] : Str)]) (by simp) (by simp)
  have hfl : fo.length ≤ 10 := by
    simp only [List.mem_cons, List.not_mem_nil, or_false] at hfo
    rcases hfo with e | e | e <;> rw [e] <;> simp
  obtain ⟨br, e7, hbr⟩ := branch_eq h3 (by omega)
  obtain ⟨n, e8, n0, n1⟩ := pick_eq h3 (n := 10) (by omega) (by omega) (by omega)
  obtain ⟨t, q, e9, ht, hq⟩ := text_eq h4 (by omega)
  simp only [e4, e5, e6, e7, e8, e9, Option.bind_some]
  have g4 : RdOk ⟨r.b, r.p + 1 + 1 + 1 + 1⟩ (p + 100) := rd_on h3 (by omega) (by omega)
  have g5 : RdOk ⟨r.b, r.p + 1 + 1 + 1 + 1 + 1⟩ (p + 100) := rd_on h4 (by omega) (by omega)
  have gq : RdOk ⟨r.b, q⟩ (p + 100) := ⟨hq.1, hq.2.1, by have := hq.2.2; show q ≤ _; have e : (⟨r.b, q⟩ : l30Rd).p = q := rfl; rw [e] at this; omega⟩
  cases k == 0 with
  | true => exact ⟨_, _, rfl, opL_of (by omega) (by omega) hb hwl hpa (by simp) lb_nil, g4⟩
  | false =>
  cases k == 1 with
  | true => exact ⟨_, _, rfl, opL_of (by omega) (by omega) hb hwl hpa hpb lb_nil, g5⟩
  | false =>
  have hfork := opL_of (k := 4) (a := 0) (by omega) (by omega) hb hwl (q := []) (by simp) hfl lb_nil
  have huni := opL_of (k := 5) (a := 0) (by omega) (by omega) hb hwl (q := []) (by simp) hbr lb_nil
  have hset := opL_of (k := 1) (a := 0) (by omega) (by omega) hb hwl hpa (t := []) (by simp) ht
  cases k == 2 with
  | true => exact ⟨_, _, rfl, hfork, g4⟩
  | false =>
  cases k == 3 with
  | true => exact ⟨_, _, rfl, hfork, g4⟩
  | false =>
  cases k == 4 with
  | true => exact ⟨_, _, rfl, huni, g4⟩
  | false =>
  cases k == 5 with
  | true => exact ⟨_, _, rfl, huni, g4⟩
  | false =>
  cases k == 6 with
  | true => exact ⟨_, _, rfl, huni, g4⟩
  | false =>
  cases k == 7 with
  | true => exact ⟨_, _, rfl, opL_of (by omega) (by omega) hb hwl (by simp) (by simp) lb_nil, g4⟩
  | false =>
  cases k == 8 with
  | true => exact ⟨_, _, rfl, opL_of (by omega) (by omega) hb hwl (by simp) (by simp) lb_nil, g4⟩
  | false => exact ⟨_, _, rfl, hset, gq⟩
theorem open0 {code : List Byte} (h : code.length ≤ 1048576) : ∃ b : List Byte, spec_l30Open code = some ⟨b, 0⟩ ∧ RdOk ⟨b, 0⟩ 0 := by
  obtain ⟨b, e, hb⟩ := open_eq h
  exact ⟨b, e, hb, by show (0 : Int) ≤ 0; omega, by show (0 : Int) ≤ 0; omega⟩
end
end Go.Vm

namespace Go.Vm
open Go Go.Sx
set_option linter.unusedSimpArgs false
set_option linter.unusedVariables false

/-- From a commit to one from which it comes. -/
inductive Rc (r : Repo) : Nat → Nat → Prop
  | refl (a : Nat) : Rc r a a
  | step {a b : Nat} {p : Int} : Rc r a b → p ∈ parsAt r b → Rc r a p.toNat
theorem Rc.trans {r : Repo} {a b c : Nat} (h : Rc r a b) (k : Rc r b c) : Rc r a c := by
  induction k with
  | refl => exact h
  | step _ hp ih => exact Rc.step ih hp
theorem Rc.head {r : Repo} {a c : Nat} (h : Rc r a c) : c = a ∨ ∃ p ∈ parsAt r a, Rc r p.toNat c := by
  induction h with
  | refl => exact .inl rfl
  | @step b p hb hp ih =>
    rcases ih with e | ⟨q, hq, hc⟩
    · subst e
      exact .inr ⟨p, hp, Rc.refl _⟩
    · exact .inr ⟨q, hq, Rc.step hc hp⟩
end Go.Vm

namespace Go.Vm
open Go Go.Sx
set_option linter.unusedSimpArgs false
set_option linter.unusedVariables false

theorem TB.of {t : List File} (hf : Bk.fit t) (h : Bk.bulk t ≤ 1048576) : TB t := ⟨bulk_len h, fun f hm => by
  have h1 : Bk.bulk f ≤ 1048576 := bulk_mem h hm
  have h2 : Bk.bulk f = f.Path.length + Bk.bulk f.Text := rfl
  exact ⟨by omega, bulk_len (show Bk.bulk f.Text ≤ 1048576 by omega), (hf.2 f hm).2⟩⟩
theorem RpB.of {r : Repo} (hf : Bk.fit r) (h : Bk.bulk r ≤ 1048576) : RpB r := by
  have h0 : Bk.bulk r = Bk.bulk r.Commits + Bk.bulk r.Heads := rfl
  have hc : Bk.bulk r.Commits ≤ 1048576 := by omega
  have hh : Bk.bulk r.Heads ≤ 1048576 := by omega
  refine ⟨bulk_len hc, fun c hm => ?_, bulk_len hh, fun x hm => ?_⟩
  · have h1 : Bk.bulk c ≤ 1048576 := bulk_mem hc hm
    have h2 : Bk.bulk c = Bk.bulk c.Parents + (c.Who.length + Bk.bulk c.Tree) := rfl
    exact ⟨bulk_len (show Bk.bulk c.Parents ≤ 1048576 by omega), by omega, TB.of (hf.1.2 c hm).2.2 (by omega)⟩
  · have h1 : Bk.bulk x ≤ 1048576 := bulk_mem hh hm
    have h2 : Bk.bulk x = x.Name.length + 0 := rfl
    omega
end Go.Vm

namespace Go.Vm
open Go Go.Sx
set_option linter.unusedSimpArgs false
set_option linter.unusedVariables false

theorem curS_app {c : UInt8} : ∀ (w v r : Str), c ∉ w → curS c v (w ++ r) = curS c (v ++ w) r
  | [], v, r, _ => by simp
  | x :: w, v, r, h => by
    have hx : (x == c) = false := beq_false_of_ne fun e => h (by simp [e])
    rw [List.cons_append]
    conv => lhs; unfold curS
    rw [hx, cond_false, curS_app w _ r fun e => h (List.mem_cons_of_mem _ e)]
    simp
theorem curN_app {c : UInt8} {n : Nat} : ∀ (w v r : Str), c ∉ w → curN c n v (w ++ r) = curN c n (v ++ w) r
  | [], v, r, _ => by simp
  | x :: w, v, r, h => by
    cases n with
    | zero => rw [curN_zero, curN_zero]; simp
    | succ n =>
      have hx : (x == c) = false := beq_false_of_ne fun e => h (by simp [e])
      rw [List.cons_append]
      conv => lhs; unfold curN
      rw [hx, cond_false, curN_app w _ r fun e => h (List.mem_cons_of_mem _ e)]
      simp
theorem curN_word {c : UInt8} {n : Nat} {w r : Str} (h : c ∉ w) : curN c (n + 1) [] (w ++ c :: r) = w :: curN c n [] r := by
  rw [curN_app w [] _ h]
  simp [curN]
theorem curN_last {c : UInt8} {n : Nat} {w : Str} (h : c ∉ w) : curN c n [] w = [w] := by
  have := curN_app (n := n) w [] [] h
  rw [List.append_nil] at this
  rw [this]
  simp [curN]
theorem splitK_cur (c : UInt8) : ∀ (r : Str) (k : Nat) (w : Str), c ∉ w → Lib.splitK [c] 0 k (w ++ r) = curN c k w r
  | r, 0, w, h => by rw [curN_zero]; rfl
  | [], k + 1, w, h => by
    rw [List.append_nil]
    unfold Lib.splitK curN
    rw [if_pos (by rw [index_not h]; rfl)]
  | x :: r, k + 1, w, h => by
    unfold curN
    cases hx : x == c with
    | true =>
      have e : x = c := by simpa using hx
      subst e
      have hi := index_at (r := r) h
      rw [cond_true]
      unfold Lib.splitK
      rw [if_neg (by rw [hi]; simp), hi]
      have e1 : (w ++ x :: r).take (((w.length : Nat) : Int).toNat + 0) = w := by simp
      have e2 : (w ++ x :: r).drop (((w.length : Nat) : Int).toNat + [x].length) = r := by
        show (w ++ x :: r).drop (w.length + 1) = r
        rw [show w ++ x :: r = (w ++ [x]) ++ r by simp, List.drop_left' (by simp)]
      have ih := splitK_cur x r k [] (by simp)
      rw [List.nil_append] at ih
      rw [e1, e2, ih]
    | false =>
      have hne : x ≠ c := by simpa using hx
      rw [cond_false, show w ++ x :: r = (w ++ [x]) ++ r by simp]
      exact splitK_cur c r (k + 1) (w ++ [x]) (by
        rw [List.mem_append, List.mem_singleton]
        rintro (h1 | h1)
        · exact h h1
        · exact hne h1.symm)
theorem curN_len (c : UInt8) : ∀ (r : Str) (n : Nat) (w : Str), 1 ≤ (curN c n w r).length ∧ (curN c n w r).length ≤ n + 1
  | [], n, w => by cases n <;> simp [curN]
  | x :: r, 0, w => by simp [curN]
  | x :: r, n + 1, w => by
    unfold curN
    cases x == c with
    | true => have := curN_len c r n []; rw [cond_true, List.length_cons]; omega
    | false => rw [cond_false]; exact curN_len c r (n + 1) _
theorem curN_bulk (c : UInt8) : ∀ (r : Str) (n : Nat) (w : Str), Bk.bulk (curN c n w r) ≤ w.length + r.length + 1
  | [], n, w => by
    have : curN c n w [] = [w] := by cases n <;> simp [curN]
    rw [this]
    show 1 + (w.length + 0) ≤ _
    simp; omega
  | x :: r, 0, w => by
    rw [curN_zero]
    show 1 + ((w ++ x :: r).length + 0) ≤ _
    simp; omega
  | x :: r, n + 1, w => by
    unfold curN
    cases x == c with
    | true =>
      have := curN_bulk c r n []
      rw [cond_true]
      have e : Bk.bulk (w :: curN c n [] r) = (curN c n [] r).length + 1 + (w.length + sumB Bk.bulk (curN c n [] r)) := rfl
      have e2 : Bk.bulk (curN c n [] r) = (curN c n [] r).length + sumB Bk.bulk (curN c n [] r) := rfl
      rw [e]
      simp at this ⊢
      omega
    | false =>
      have := curN_bulk c r (n + 1) (w ++ [x])
      rw [cond_false]
      simp at this ⊢
      omega
theorem curS_N (c : UInt8) (r : Str) : curS c [] r = curN c (r.length + 1) [] r := (curN_same c r (r.length + 1) [] (by have := curS_long c r []; simp at this ⊢; omega)).symm
theorem tail_bulk {l : List Str} {n : Nat} (h : Bk.bulk l ≤ n + 1) (h1 : 1 ≤ l.length) : Bk.bulk (l.drop 1) ≤ n := by
  cases l with
  | nil => simp at h1
  | cons x l =>
    have e : Bk.bulk (x :: l) = l.length + 1 + (x.length + sumB Bk.bulk l) := rfl
    have e2 : Bk.bulk l = l.length + sumB Bk.bulk l := rfl
    rw [e] at h
    show Bk.bulk l ≤ n
    omega
theorem bars_cur : ∀ (t : List Str) (v : Str), barless t = true → curS 124 v (barsL t) = v :: t
  | [], v, _ => by simp [barsL, curS]
  | x :: t, v, h => by
    have h2 : noBar x = true ∧ barless t = true := by simpa [barless] using h
    have hx : (124 : UInt8) ∉ x := fun hm => by
      have := List.all_eq_true.1 h2.1 _ hm
      simp at this
    rw [show barsL (x :: t) = 124 :: (x ++ barsL t) by simp [barsL]]
    conv => lhs; unfold curS
    rw [show ((124 : UInt8) == 124) = true by rfl, cond_true, curS_app x [] _ hx, List.nil_append, bars_cur t x h2.2]

def kO (u : Str) (d : Int) : Int :=
  bif u == [115, 101, 116] then 1 else bif u == [100, 114, 111, 112] then 2 else bif u == [109, 111, 118, 101] then 3 else bif u == [102, 111, 114, 107] then 4
  else bif u == [117, 110, 105, 116, 101] then 5 else bif u == [112, 105, 99, 107] then 6 else bif u == [98, 97, 99, 107] then 7 else d
def kI (u : Str) : Int := bif u == [] then 0 else kO u (-1)
def zeroO : Op := ⟨0, [], [], [], [], 0, []⟩
def opOf (k : Int) (g : Nat → Str) (n : Int) (t : List Str) : Op :=
  bif k == 1 then ⟨k, g 1, g 2, g 3, [], 0, t⟩
  else bif k == 2 then ⟨k, g 1, g 2, g 3, [], 0, []⟩
  else bif k == 3 then ⟨k, g 1, g 2, g 3, g 4, 0, []⟩
  else bif k == 4 || k == 5 then ⟨k, g 1, g 2, [], g 3, 0, []⟩
  else ⟨k, g 1, g 2, [], [], n, []⟩
def finO (s : Str) (w : List Str) (o : Op) : Op × Bool := bif decide ((w.length : Int) < 4) then (zeroO, false) else bif opB o && (putS o == s) then (o, true) else (zeroO, false)
def gW (w : List Str) (i : Nat) : Str := w.getD i []
def opI (w : List Str) : Op := opOf (kI (gW w 0)) (gW w) (bif kI (gW w 0) == 6 || kI (gW w 0) == 7 then atoiI (gW w 3) else 0) (bif gW w 4 != [] then (curS 124 [] (gW w 4)).drop 1 else [])
def opSn (num : Str → Int) (w : List Str) : Op := opOf (kO (gW w 0) 0) (gW w) (num (gW w 3)) ((curN 124 11 [] (gW w 4)).drop 1)
def wordsO (s : Str) : List Str := curN 32 4 [] s

theorem atoi_fit (s : Str) : Bk.fit (atoiI s) := by
  unfold atoiI
  cases h : Lib.atoiAll s with
  | ok v => exact Lib.atoiAll_bounds h
  | «syntax» => exact (show (-9223372036854775808 : Int) ≤ 0 ∧ (0 : Int) ≤ 9223372036854775807 by decide)
  | range => exact Lib.atoiSat_bounds s

theorem name_no {s : Str} {c : UInt8} (h : nameB s = true) (hc : wordB c = false) : c ∉ s := fun hm => by
  unfold nameB at h
  simp only [Bool.and_eq_true, List.all_eq_true] at h
  have := h.2 c hm
  rw [hc] at this
  cases this
theorem curS_mem {c x : UInt8} : ∀ (r v : Str), x ∈ v ++ r → x ≠ c → ∃ p ∈ curS c v r, x ∈ p
  | [], v, h, _ => ⟨v, by simp [curS], by simpa using h⟩
  | y :: r, v, h, hn => by
    unfold curS
    cases hy : y == c with
    | true =>
      rw [cond_true]
      have e : y = c := by simpa using hy
      rcases List.mem_append.1 h with h1 | h1
      · exact ⟨v, by simp, h1⟩
      · rcases List.mem_cons.1 h1 with h2 | h2
        · exact absurd (h2.trans e) hn
        · obtain ⟨p, h3, h4⟩ := curS_mem r [] (by simpa using h2) hn
          exact ⟨p, List.mem_cons_of_mem _ h3, h4⟩
    | false =>
      rw [cond_false]
      exact curS_mem r (v ++ [y]) (by simpa using h) hn
theorem path_no {s : Str} (h : pathB s = true) : (32 : UInt8) ∉ s := fun hm => by
  unfold pathB at h
  simp only [Bool.and_eq_true, List.all_eq_true] at h
  obtain ⟨p, h1, h2⟩ := curS_mem (c := 47) s [] (by simpa using hm) (by decide)
  exact name_no (h.2 p h1) (by decide) h2
theorem dec_form (k : Nat) (hk : k < 16) : Lib.decDigits k = if k < 10 then [UInt8.ofNat (48 + k)] else [UInt8.ofNat (48 + k / 10), UInt8.ofNat (48 + k % 10)] := by
  rw [Lib.decDigits]
  split
  · rfl
  · rw [Lib.decDigits, dif_pos (by omega)]
    rfl
theorem dec_all (k : Nat) (hk : k < 16) : (32 : UInt8) ∉ Lib.decDigits k ∧ atoiI (Lib.decDigits k) = (k : Int) := by
  rw [dec_form k hk]
  revert k
  decide +kernel
theorem words4 {W b w R : Str} (h1 : (32 : UInt8) ∉ W) (h2 : (32 : UInt8) ∉ b) (h3 : (32 : UInt8) ∉ w) : wordsO (W ++ 32 :: (b ++ 32 :: (w ++ 32 :: R))) = W :: b :: w :: curN 32 1 [] R := by
  unfold wordsO
  rw [curN_word h1, curN_word h2, curN_word h3]
theorem text_max {t : List Str} (h : textB t = true) : t.length ≤ 10 ∧ Bk.bulk t ≤ 130 := by
  unfold textB at h
  simp only [Bool.and_eq_true, Bool.not_eq_true', decide_eq_false_iff_not] at h
  have hl : t.length ≤ 10 := by omega
  refine ⟨hl, ?_⟩
  have hs : sumB Bk.bulk t ≤ 12 * t.length := sumB_bound fun s hs => by
    have := List.all_eq_true.1 h.2 s hs
    unfold lineB at this
    simp only [Bool.and_eq_true, Bool.not_eq_true', decide_eq_false_iff_not] at this
    show s.length ≤ 12
    omega
  show t.length + sumB Bk.bulk t ≤ 130
  omega
theorem len0 {t : List Str} (h : ((t.length : Int) == 0) = true) : t = [] := by
  cases t with
  | nil => rfl
  | cons a t => simp at h; omega
theorem read_put {o : Op} (ho : opB o = true) {num : Str → Int} (hnum : ∀ k : Nat, k < 16 → num (Lib.decDigits k) = (k : Int)) : opI (wordsO (putS o)) = o ∧ opSn num (wordsO (putS o)) = o ∧ 4 ≤ (wordsO (putS o)).length ∧ (putS o).length ≤ 300 ∧ putS o ≠ [] := by
  obtain ⟨k, b, w, p, t, a, x⟩ := o
  unfold opB at ho
  simp only [Bool.and_eq_true] at ho
  obtain ⟨hb, hw, h3⟩ := ho
  have nb := name_no hb (c := 32) (by decide)
  have nw := name_no hw (c := 32) (by decide)
  have lb := name_len hb
  have lw := name_len hw
  by_cases e1 : k = 1
  · subst e1
    replace h3 : (pathB p && (textB x && (barless x && (t == [] && a == 0)))) = true := h3
    simp only [Bool.and_eq_true, beq_iff_eq] at h3
    obtain ⟨hp, hx, hbx, rfl, rfl⟩ := h3
    have tm := text_max hx
    have hbl := bars_len x
    have pl := path_len hp
    have e : putS ⟨1, b, w, p, [], 0, x⟩ = [115, 101, 116] ++ 32 :: (b ++ 32 :: (w ++ 32 :: (p ++ 32 :: barsL x))) := by
      show ([115, 101, 116] ++ [32] ++ b ++ [32] ++ w ++ [32]) ++ p ++ [32] ++ barsL x = _
      simp
    have hW : wordsO (putS ⟨1, b, w, p, [], 0, x⟩) = [[115, 101, 116], b, w, p, barsL x] := by
      rw [e, words4 (by decide) nb nw, curN_word (path_no hp), curN_zero]
      rfl
    have hcur := bars_cur x [] hbx
    refine ⟨?_, ?_, by rw [hW]; simp, by rw [e]; simp; omega, by rw [e]; simp⟩
    · rw [hW]
      show (⟨1, b, w, p, [], 0, bif barsL x != [] then (curS 124 [] (barsL x)).drop 1 else []⟩ : Op) = _
      cases x with
      | nil => rfl
      | cons y l =>
        have : (barsL (y :: l) != []) = true := by simp [barsL]
        rw [this, cond_true, hcur]
        rfl
    · rw [hW]
      show (⟨1, b, w, p, [], 0, (curN 124 11 [] (barsL x)).drop 1⟩ : Op) = _
      rw [curN_same 124 (barsL x) 11 [] (by rw [hcur, List.length_cons]; omega), hcur]
      rfl
  by_cases e2 : k = 2
  · subst e2
    replace h3 : (pathB p && (t == [] && (a == 0 && (x.length : Int) == 0))) = true := h3
    simp only [Bool.and_eq_true] at h3
    obtain ⟨hp, h4, h5, h6⟩ := h3
    obtain rfl : t = [] := by simpa using h4
    obtain rfl : a = 0 := by simpa using h5
    obtain rfl := len0 h6
    have pl := path_len hp
    have e : putS ⟨2, b, w, p, [], 0, []⟩ = [100, 114, 111, 112] ++ 32 :: (b ++ 32 :: (w ++ 32 :: p)) := by
      show ([100, 114, 111, 112] ++ [32] ++ b ++ [32] ++ w ++ [32]) ++ p = _
      simp
    have hW : wordsO (putS ⟨2, b, w, p, [], 0, []⟩) = [[100, 114, 111, 112], b, w, p] := by
      rw [e, words4 (by decide) nb nw, curN_last (path_no hp)]
    exact ⟨by rw [hW]; rfl, by rw [hW]; rfl, by rw [hW]; simp, by rw [e]; simp; omega, by rw [e]; simp⟩
  by_cases e3 : k = 3
  · subst e3
    replace h3 : (pathB p && (pathB t && (a == 0 && (x.length : Int) == 0))) = true := h3
    simp only [Bool.and_eq_true] at h3
    obtain ⟨hp, ht, h5, h6⟩ := h3
    obtain rfl : a = 0 := by simpa using h5
    obtain rfl := len0 h6
    have pl := path_len hp
    have tl := path_len ht
    have e : putS ⟨3, b, w, p, t, 0, []⟩ = [109, 111, 118, 101] ++ 32 :: (b ++ 32 :: (w ++ 32 :: (p ++ 32 :: t))) := by
      show ([109, 111, 118, 101] ++ [32] ++ b ++ [32] ++ w ++ [32]) ++ p ++ [32] ++ t = _
      simp
    have hW : wordsO (putS ⟨3, b, w, p, t, 0, []⟩) = [[109, 111, 118, 101], b, w, p, t] := by
      rw [e, words4 (by decide) nb nw, curN_word (path_no hp), curN_zero]
      rfl
    exact ⟨by rw [hW]; rfl, by rw [hW]; rfl, by rw [hW]; simp, by rw [e]; simp; omega, by rw [e]; simp⟩
  by_cases e4 : k = 4
  · subst e4
    replace h3 : (nameB t && (p == [] && (a == 0 && (x.length : Int) == 0))) = true := h3
    simp only [Bool.and_eq_true] at h3
    obtain ⟨ht, h4, h5, h6⟩ := h3
    obtain rfl : p = [] := by simpa using h4
    obtain rfl : a = 0 := by simpa using h5
    obtain rfl := len0 h6
    have tl := name_len ht
    have e : putS ⟨4, b, w, [], t, 0, []⟩ = [102, 111, 114, 107] ++ 32 :: (b ++ 32 :: (w ++ 32 :: t)) := by
      show ([102, 111, 114, 107] ++ [32] ++ b ++ [32] ++ w ++ [32]) ++ t = _
      simp
    have hW : wordsO (putS ⟨4, b, w, [], t, 0, []⟩) = [[102, 111, 114, 107], b, w, t] := by
      rw [e, words4 (by decide) nb nw, curN_last (name_no ht (by decide))]
    exact ⟨by rw [hW]; rfl, by rw [hW]; rfl, by rw [hW]; simp, by rw [e]; simp; omega, by rw [e]; simp⟩
  by_cases e5 : k = 5
  · subst e5
    replace h3 : (nameB t && (p == [] && (a == 0 && (x.length : Int) == 0))) = true := h3
    simp only [Bool.and_eq_true] at h3
    obtain ⟨ht, h4, h5, h6⟩ := h3
    obtain rfl : p = [] := by simpa using h4
    obtain rfl : a = 0 := by simpa using h5
    obtain rfl := len0 h6
    have tl := name_len ht
    have e : putS ⟨5, b, w, [], t, 0, []⟩ = [117, 110, 105, 116, 101] ++ 32 :: (b ++ 32 :: (w ++ 32 :: t)) := by
      show ([117, 110, 105, 116, 101] ++ [32] ++ b ++ [32] ++ w ++ [32]) ++ t = _
      simp
    have hW : wordsO (putS ⟨5, b, w, [], t, 0, []⟩) = [[117, 110, 105, 116, 101], b, w, t] := by
      rw [e, words4 (by decide) nb nw, curN_last (name_no ht (by decide))]
    exact ⟨by rw [hW]; rfl, by rw [hW]; rfl, by rw [hW]; simp, by rw [e]; simp; omega, by rw [e]; simp⟩
  have hne : (k == 1) = false ∧ (k == 2) = false ∧ (k == 3) = false ∧ (k == 4) = false ∧ (k == 5) = false := ⟨by simpa using e1, by simpa using e2, by simpa using e3, by simpa using e4, by simpa using e5⟩
  rw [hne.1, hne.2.1, hne.2.2.1, hne.2.2.2.1, hne.2.2.2.2] at h3
  simp only [cond_false, Bool.or_false] at h3
  by_cases e67 : k = 6 ∨ k = 7
  · have : (k == 6 || k == 7) = true := by simpa using e67
    rw [this, cond_true] at h3
    simp only [Bool.and_eq_true, decide_eq_true_eq] at h3
    obtain ⟨⟨a0, a1⟩, h4, h5, h6⟩ := h3
    obtain rfl : p = [] := by simpa using h4
    obtain rfl : t = [] := by simpa using h5
    obtain rfl := len0 h6
    obtain ⟨n, rfl⟩ := Int.eq_ofNat_of_zero_le a0
    obtain ⟨dn, da⟩ := dec_all n (by omega)
    have dl := dec_len n (by omega)
    have hnum := hnum n (by omega)
    rcases e67 with rfl | rfl
    · have e : putS ⟨6, b, w, [], [], (n : Int), []⟩ = [112, 105, 99, 107] ++ 32 :: (b ++ 32 :: (w ++ 32 :: Lib.decDigits n)) := by
        show ([112, 105, 99, 107] ++ [32] ++ b ++ [32] ++ w ++ [32]) ++ Lib.decDigits ((n : Int)).toNat = _
        simp
      have hW : wordsO (putS ⟨6, b, w, [], [], (n : Int), []⟩) = [[112, 105, 99, 107], b, w, Lib.decDigits n] := by
        rw [e, words4 (by decide) nb nw, curN_last dn]
      refine ⟨?_, ?_, by rw [hW]; simp, by rw [e]; simp; omega, by rw [e]; simp⟩
      · rw [hW]
        show (⟨6, b, w, [], [], atoiI (Lib.decDigits n), []⟩ : Op) = _
        rw [da]
      · rw [hW]
        show (⟨6, b, w, [], [], num (Lib.decDigits n), []⟩ : Op) = _
        rw [hnum]
    · have e : putS ⟨7, b, w, [], [], (n : Int), []⟩ = [98, 97, 99, 107] ++ 32 :: (b ++ 32 :: (w ++ 32 :: Lib.decDigits n)) := by
        show ([98, 97, 99, 107] ++ [32] ++ b ++ [32] ++ w ++ [32]) ++ Lib.decDigits ((n : Int)).toNat = _
        simp
      have hW : wordsO (putS ⟨7, b, w, [], [], (n : Int), []⟩) = [[98, 97, 99, 107], b, w, Lib.decDigits n] := by
        rw [e, words4 (by decide) nb nw, curN_last dn]
      refine ⟨?_, ?_, by rw [hW]; simp, by rw [e]; simp; omega, by rw [e]; simp⟩
      · rw [hW]
        show (⟨7, b, w, [], [], atoiI (Lib.decDigits n), []⟩ : Op) = _
        rw [da]
      · rw [hW]
        show (⟨7, b, w, [], [], num (Lib.decDigits n), []⟩ : Op) = _
        rw [hnum]
  · have : (k == 6 || k == 7) = false := by
      rw [Bool.or_eq_false_iff]
      exact ⟨by simpa using fun e => e67 (.inl e), by simpa using fun e => e67 (.inr e)⟩
    rw [this, cond_false] at h3
    cases h3
theorem read1 {o : Op} (ho : opB o = true) : opI (wordsO (putS o)) = o ∧ opSn atoiI (wordsO (putS o)) = o ∧ 4 ≤ (wordsO (putS o)).length ∧ (putS o).length ≤ 300 ∧ putS o ≠ [] := read_put ho (num := atoiI) fun k hk => (dec_all k hk).2
theorem fin_put {o : Op} (ho : opB o = true) : finO (putS o) (wordsO (putS o)) (opI (wordsO (putS o))) = (o, true) := by
  obtain ⟨h1, h2, h3, _, _⟩ := read1 ho
  unfold finO
  rw [decide_eq_false (by omega), cond_false, h1, ho, beq_self_eq_true]
  rfl
theorem mem_bulk {x : Str} : ∀ {t : List Str}, x ∈ t → x.length ≤ Bk.bulk t
  | y :: t, h => by
    have e : Bk.bulk (y :: t) = t.length + 1 + (y.length + sumB Bk.bulk t) := rfl
    have e2 : Bk.bulk t = t.length + sumB Bk.bulk t := rfl
    rw [e]
    rcases List.mem_cons.1 h with h1 | h1
    · rw [h1]; omega
    · have := mem_bulk h1; omega
theorem texts_fit {t : List Str} (h : Bk.bulk t ≤ 1048576) : Bk.fit t := ⟨to_maxi (bulk_len h), fun x hx => show x.length ≤ maxi from to_maxi (Nat.le_trans (mem_bulk hx) h)⟩
theorem opOf_fit {k n : Int} {g : Nat → Str} {t : List Str} (hk : -1 ≤ k ∧ k ≤ 7) (hg : ∀ i, (g i).length ≤ 1048576) (hn : Bk.fit n) (ht : Bk.bulk t ≤ 1048576) : OpFit (opOf k g n t) := by
  have f0 : Bk.fit k := (show -9223372036854775808 ≤ k ∧ k ≤ 9223372036854775807 by omega)
  have z0 : Bk.fit (0 : Int) := (show (-9223372036854775808 : Int) ≤ 0 ∧ (0 : Int) ≤ 9223372036854775807 by decide)
  have fg : ∀ i, Bk.fit (g i) := fun i => show (g i).length ≤ maxi from to_maxi (hg i)
  have fe : Bk.fit ([] : Str) := Nat.zero_le _
  have ft := texts_fit ht
  have fn : Bk.fit ([] : List Str) := texts_fit (Nat.zero_le _)
  unfold opOf
  cases k == 1 with
  | true => exact ⟨⟨f0, fg 1, fg 2, fg 3, fe, z0, ft⟩, hg 3, Nat.zero_le _, ht⟩
  | false =>
  cases k == 2 with
  | true => exact ⟨⟨f0, fg 1, fg 2, fg 3, fe, z0, fn⟩, hg 3, Nat.zero_le _, Nat.zero_le _⟩
  | false =>
  cases k == 3 with
  | true => exact ⟨⟨f0, fg 1, fg 2, fg 3, fg 4, z0, fn⟩, hg 3, hg 4, Nat.zero_le _⟩
  | false =>
  cases k == 4 || k == 5 with
  | true => exact ⟨⟨f0, fg 1, fg 2, fe, fg 3, z0, fn⟩, Nat.zero_le _, hg 3, Nat.zero_le _⟩
  | false => exact ⟨⟨f0, fg 1, fg 2, fe, fe, hn, fn⟩, Nat.zero_le _, Nat.zero_le _, Nat.zero_le _⟩
theorem kO_cases (u : Str) (d : Int) : kO u d = 1 ∨ kO u d = 2 ∨ kO u d = 3 ∨ kO u d = 4 ∨ kO u d = 5 ∨ kO u d = 6 ∨ kO u d = 7 ∨ kO u d = d := by
  unfold kO
  cases u == [115, 101, 116]; cases u == [100, 114, 111, 112]; cases u == [109, 111, 118, 101]; cases u == [102, 111, 114, 107]; cases u == [117, 110, 105, 116, 101]; cases u == [112, 105, 99, 107]; cases u == [98, 97, 99, 107]
  all_goals simp
theorem kI_cases (u : Str) : kI u = 1 ∨ kI u = 2 ∨ kI u = 3 ∨ kI u = 4 ∨ kI u = 5 ∨ kI u = 6 ∨ kI u = 7 ∨ kI u = 0 ∨ kI u = -1 := by
  unfold kI
  cases u == [] with
  | true => simp
  | false => rw [cond_false]; rcases kO_cases u (-1) with h | h | h | h | h | h | h | h <;> simp [h]
theorem gW_len {s : Str} (i : Nat) : (gW (wordsO s) i).length ≤ s.length := by
  unfold gW
  cases h : (wordsO s)[i]? with
  | none => rw [List.getD_eq_getElem?_getD, h]; exact Nat.zero_le _
  | some p =>
    rw [List.getD_eq_getElem?_getD, h]
    have := curN_fit 32 s 4 [] p (List.mem_of_getElem? h)
    simpa using this
theorem opI_fit {s : Str} (hs : s.length ≤ 1048576) : OpFit (opI (wordsO s)) := by
  unfold opI
  refine opOf_fit (by rcases kI_cases (gW (wordsO s) 0) with h | h | h | h | h | h | h | h | h <;> omega) (fun i => Nat.le_trans (gW_len i) hs) ?_ ?_
  · cases kI (gW (wordsO s) 0) == 6 || kI (gW (wordsO s) 0) == 7 with
    | true => exact atoi_fit _
    | false => exact (show (-9223372036854775808 : Int) ≤ 0 ∧ (0 : Int) ≤ 9223372036854775807 by decide)
  · cases gW (wordsO s) 4 != [] with
    | true =>
      rw [cond_true, curS_N]
      have h1 := curN_bulk 124 (gW (wordsO s) 4) ((gW (wordsO s) 4).length + 1) []
      simp only [List.length_nil, Nat.zero_add] at h1
      have h2 := gW_len (s := s) 4
      exact Nat.le_trans (tail_bulk h1 (curN_len _ _ _ _).1) (by omega)
    | false => exact Nat.zero_le _
theorem splitN_eq {s : Str} (hs : s.length ≤ 1048576) : strings_SplitN s ([32] : Str) 5 = some (wordsO s) := by
  unfold strings_SplitN wordsO
  rw [if_pos ⟨by omega, by simp, by omega, by omega⟩]
  have h0 := splitK_cur 32 s (min (5 : Int).toNat (s.length + 1) - 1) [] (by simp)
  rw [List.nil_append] at h0
  rw [h0]
  by_cases h : 4 ≤ s.length
  · have e : min (5 : Int).toNat (s.length + 1) - 1 = 4 := by show min 5 (s.length + 1) - 1 = 4; omega
    rw [e]
  · have hl := curS_long 32 s []
    have e : min (5 : Int).toNat (s.length + 1) - 1 = s.length := by show min 5 (s.length + 1) - 1 = _; omega
    rw [e, curN_same 32 s s.length [] (by simpa using hl), curN_same 32 s 4 [] (by omega)]
theorem index_words (u : Str) : slices_Index_string_string wordsL u = some (kI u) := by
  unfold slices_Index_string_string kI kO
  show (bif u == [] then some 0 else bif u == [115, 101, 116] then some 1 else bif u == [100, 114, 111, 112] then some 2 else bif u == [109, 111, 118, 101] then some 3 else bif u == [102, 111, 114, 107] then some 4 else bif u == [117, 110, 105, 116, 101] then some 5 else bif u == [112, 105, 99, 107] then some 6 else bif u == [98, 97, 99, 107] then some 7 else some (-1)) = _
  cases u == []; cases u == [115, 101, 116]; cases u == [100, 114, 111, 112]; cases u == [109, 111, 118, 101]; cases u == [102, 111, 114, 107]; cases u == [117, 110, 105, 116, 101]; cases u == [112, 105, 99, 107]; cases u == [98, 97, 99, 107]
  all_goals rfl
theorem leafI {s : Str} {o : Op} (h : OpFit o) : ((impl_OpOk o).bind fun z => bif !z then some (zeroO, false) else ((impl_opPut o).bind fun y => bif y != s then some (zeroO, false) else some (o, true))) = some (bif opB o && (putS o == s) then (o, true) else (zeroO, false)) := by
  rw [iOpOk_eq h, Option.bind_some]
  cases ho : opB o with
  | false => rfl
  | true =>
    rw [iPut_eq h ho, Option.bind_some, bne]
    cases putS o == s <;> rfl
theorem gi_W {w : List Str} {i : Nat} (h : i < w.length) : gi w (i : Int) = some (gW w i) := by
  rw [gi_of (List.getElem?_eq_getElem h)]
  unfold gW
  rw [List.getD_eq_getElem?_getD, List.getElem?_eq_getElem h]
  rfl
theorem iOpGet_eq {s : Str} (hs : s.length ≤ 1048576) : impl_OpGet s = some (finO s (wordsO s) (opI (wordsO s))) := by
  unfold impl_OpGet
  have hlen : (wordsO s).length ≤ 5 := (curN_len 32 s 4 []).2
  have hf := opI_fit hs
  have h4l := gW_len (s := s) 4
  have h3l := gW_len (s := s) 3
  rw [splitN_eq hs, Option.bind_some]
  unfold finO
  generalize hw : wordsO s = w at *
  by_cases h4 : (w.length : Int) < 4
  · rw [decide_eq_true h4]; rfl
  have g0 : gi w 0 = some (gW w 0) := gi_W (i := 0) (by omega)
  have g1 : gi w 1 = some (gW w 1) := gi_W (i := 1) (by omega)
  have g2 : gi w 2 = some (gW w 2) := gi_W (i := 2) (by omega)
  have g3 : gi w 3 = some (gW w 3) := gi_W (i := 3) (by omega)
  rw [decide_eq_false h4, cond_false, cond_false]
  simp only [jn, show impl_opWords = some wordsL from rfl, Option.bind_some, g0, g1, g2, g3, index_words, cond_true]
  unfold opI at hf ⊢
  rcases kI_cases (gW w 0) with e | e | e | e | e | e | e | e | e
  · rw [e] at hf ⊢
    simp only [Int.reduceBEq, cond_true, cond_false, Bool.or_false, Bool.false_or] at hf ⊢
    by_cases h5 : (w.length : Int) = 5
    · have g4 : gi w 4 = some (gW w 4) := gi_W (i := 4) (by omega)
      rw [beq_iff_eq.2 h5, cond_true, g4, Option.bind_some]
      cases hz : gW w 4 != [] with
      | true =>
        have hsp : strings_Split (gW w 4) ([124] : Str) = some (curS 124 [] (gW w 4)) := by
          unfold strings_Split
          rw [if_pos ⟨by omega, by simp⟩, split_eq]
        have hsl := slM_drop (xs := curS 124 [] (gW w 4)) (i := 1) (curS_len 124 _ _)
        rw [hz, cond_true] at hf
        simp only [cond_true, Option.bind_some, hsp]
        rw [show (1 : Int) = ((1 : Nat) : Int) from rfl, hsl, Option.bind_some]
        exact leafI hf
      | false =>
        rw [hz, cond_false] at hf
        exact leafI hf
    · have hb : ((w.length : Int) == 5) = false := beq_false_of_ne h5
      have hz : gW w 4 = [] := by
        unfold gW
        rw [List.getD_eq_getElem?_getD, List.getElem?_eq_none (by omega)]
        rfl
      rw [hb, cond_false, hz]
      rw [hz] at hf
      exact leafI hf
  · rw [e] at hf ⊢
    exact leafI hf
  · rw [e] at hf ⊢
    simp only [Int.reduceBEq, cond_true, cond_false]
    by_cases h5 : (w.length : Int) = 5
    · have g4 : gi w 4 = some (gW w 4) := gi_W (i := 4) (by omega)
      rw [beq_iff_eq.2 h5, cond_true, g4, Option.bind_some]
      exact leafI hf
    · have hb : ((w.length : Int) == 5) = false := beq_false_of_ne h5
      have hz : gW w 4 = [] := by
        unfold gW
        rw [List.getD_eq_getElem?_getD, List.getElem?_eq_none (by omega)]
        rfl
      have hf2 : OpFit ⟨3, gW w 1, gW w 2, gW w 3, gW w 4, 0, []⟩ := hf
      rw [hz] at hf2
      rw [hb, cond_false]
      have := leafI (s := s) hf2
      show _ = some (bif opB ⟨3, gW w 1, gW w 2, gW w 3, gW w 4, 0, []⟩ && (putS ⟨3, gW w 1, gW w 2, gW w 3, gW w 4, 0, []⟩ == s) then (⟨3, gW w 1, gW w 2, gW w 3, gW w 4, 0, []⟩, true) else (zeroO, false))
      rw [hz]
      exact this
  · rw [e] at hf ⊢
    exact leafI hf
  · rw [e] at hf ⊢
    exact leafI hf
  · rw [e] at hf ⊢
    have ha : strconv_Atoi (gW w 3) = some (atoiI (gW w 3), ()) := by unfold strconv_Atoi; rw [if_pos (by omega)]
    simp only [Int.reduceBEq, cond_true, cond_false, ha, Option.bind_some]
    exact leafI hf
  · rw [e] at hf ⊢
    have ha : strconv_Atoi (gW w 3) = some (atoiI (gW w 3), ()) := by unfold strconv_Atoi; rw [if_pos (by omega)]
    simp only [Int.reduceBEq, cond_true, cond_false, ha, Option.bind_some]
    exact leafI hf
  · rw [e] at hf ⊢
    exact leafI hf
  · rw [e] at hf ⊢
    exact leafI hf

theorem sumS_snoc {x : Str} : ∀ t : List Str, sumB Bk.bulk (t ++ [x]) = sumB Bk.bulk t + x.length
  | [] => by show x.length + 0 = 0 + x.length; omega
  | y :: t => by
    show y.length + sumB Bk.bulk (t ++ [x]) = y.length + sumB Bk.bulk t + x.length
    rw [sumS_snoc t]
    omega
theorem bulk_snoc (t : List Str) (x : Str) : Bk.bulk (t ++ [x]) = Bk.bulk t + 1 + x.length := by
  show (t ++ [x]).length + sumB Bk.bulk (t ++ [x]) = t.length + sumB Bk.bulk t + 1 + x.length
  rw [sumS_snoc, List.length_append, List.length_singleton]
  omega
theorem anyOp_eq {r : l30Rd} {p : Int} (h : RdOk r p) (hp : p ≤ 100000) : ∃ o q, spec_l30AnyOp r = some (o, q) ∧ OpFit o := by
  unfold spec_l30AnyOp
  obtain ⟨o, q, e, ho, h1⟩ := op_eq h (by omega)
  obtain ⟨k, b, w, pa, t, a, x⟩ := o
  obtain ⟨⟨f0, f1, f2, f3, f4, f5, f6⟩, hb⟩ := ho
  have eb : Bk.bulk (Op.mk k b w pa t a x) = 0 + (b.length + (w.length + (pa.length + (t.length + (0 + Bk.bulk x))))) := rfl
  rw [eb] at hb
  obtain ⟨z, e1, z0, z1⟩ := pick_eq h1 (n := 16) (by omega) (by omega) (by omega)
  have h2 := rd_on (q := p + 100 + 1) h1 (k := 1) (by omega) (by omega)
  have ix : ∀ n : Int, n ∈ [0, 8, 1, -1, 16] → Bk.fit n := fun n hn => by
    simp only [List.mem_cons, List.not_mem_nil, or_false] at hn
    show -9223372036854775808 ≤ n ∧ n ≤ 9223372036854775807
    omega
  have sx : ∀ s : Str, s.length ≤ 100 → Bk.fit s := fun s hs => show s.length ≤ maxi from to_maxi (by omega)
  simp only [e, Option.bind_some, jn, e1]
  cases z == 0 with
  | true =>
    obtain ⟨n, e2, hn⟩ := one_eq h2 (by omega) (l := ([0, 8, 1] : List Int)) (by simp) (by simp)
    simp only at e2
    rw [cond_true, e2, Option.bind_some]
    exact ⟨_, _, rfl, ⟨ix n (by simp at hn ⊢; omega), f1, f2, f3, f4, f5, f6⟩, by show pa.length ≤ _; omega, by show t.length ≤ _; omega, by show Bk.bulk x ≤ _; omega⟩
  | false =>
  cases z == 1 with
  | true =>
    obtain ⟨n, e2, hn⟩ := of_eq h2 (by omega) (l := ([([] : Str), ([77, 97, 105, 110] : Str)] : List Str)) (by simp) (by simp)
    simp only at e2
    rw [cond_false, cond_true, e2, Option.bind_some]
    have hl : n.length ≤ 100 := by
      simp only [List.mem_cons, List.not_mem_nil, or_false] at hn
      rcases hn with e | e <;> rw [e] <;> simp
    exact ⟨_, _, rfl, ⟨f0, sx n hl, f2, f3, f4, f5, f6⟩, by show pa.length ≤ _; omega, by show t.length ≤ _; omega, by show Bk.bulk x ≤ _; omega⟩
  | false =>
  cases z == 2 with
  | true =>
    rw [cond_false, cond_false, cond_true, ap1 (show x.length ≤ 1048576 from bulk_len (n := 1048576) (by omega)), Option.bind_some]
    have hbx := bulk_snoc x ([97, 124, 98] : Str)
    have hx : Bk.bulk (x ++ [([97, 124, 98] : Str)]) ≤ 1048576 := by rw [hbx]; simp; omega
    exact ⟨_, _, rfl, ⟨f0, f1, f2, f3, f4, f5, texts_fit hx⟩, by show pa.length ≤ _; omega, by show t.length ≤ _; omega, hx⟩
  | false =>
  cases z == 3 with
  | true =>
    obtain ⟨n, e2, hn⟩ := one_eq h2 (by omega) (l := ([(-1), 16] : List Int)) (by simp) (by simp)
    simp only at e2
    rw [cond_false, cond_false, cond_false, cond_true, e2, Option.bind_some]
    exact ⟨_, _, rfl, ⟨f0, f1, f2, f3, f4, ix n (by simp at hn ⊢; omega), f6⟩, by show pa.length ≤ _; omega, by show t.length ≤ _; omega, by show Bk.bulk x ≤ _; omega⟩
  | false => exact ⟨_, _, rfl, ⟨f0, f1, f2, f3, f4, f5, f6⟩, by show pa.length ≤ _; omega, by show t.length ≤ _; omega, by show Bk.bulk x ≤ _; omega⟩
theorem opPut_len (o : Op) : (opPutB o).length ≤ 300 := by
  unfold opPutB
  cases h : opB o with
  | false => exact Nat.zero_le _
  | true => exact (read1 h).2.2.2.1
theorem smOp_eq {o : Op} (h : o.Text.length ≤ maxi) : laws_smOp o o = some true := by
  unfold laws_smOp
  simp only [jn, beq_self_eq_true, cond_true, smTexts_eq h, Option.bind_some]
theorem FnOpPut_eq {code : List Byte} (h : Bk.fit code) : laws_FnOpPut code = some true := by
  unfold laws_FnOpPut
  by_cases hc : (1048576 : Int) < (code.length : Int)
  · rw [decide_eq_true hc]; rfl
  obtain ⟨b, e, hr⟩ := open0 (code := code) (by omega)
  obtain ⟨o, q, e1, hf⟩ := anyOp_eq hr (by omega)
  have ed : spec_DrawOpPut code = some o := by
    unfold spec_DrawOpPut
    rw [e, Option.bind_some, e1]
    rfl
  have ht := hf.text
  have hl := opPut_len o
  rw [decide_eq_false hc, cond_false, ed, Option.bind_some]
  simp only [show (⟨o.Kind, o.Branch, o.Who, o.Path, o.To, o.At, o.Text⟩ : Op) = o from rfl, iOpPut_eq hf, sOpPut_eq hf, iOpOk_eq hf, sOpOk_eq hf, Option.bind_some, jn, bne_self_eq_false, cond_false, beq_self_eq_true, cond_true]
  cases hb : opB o with
  | false =>
    have : opPutB o = [] := by unfold opPutB; rw [hb]; rfl
    rw [this]
    rfl
  | true =>
    have ep : opPutB o = putS o := by unfold opPutB; rw [hb]; rfl
    have hne : (putS o == ([] : Str)) = false := beq_false_of_ne (read1 hb).2.2.2.2
    rw [ep] at hl ⊢
    rw [hne, cond_false, iOpGet_eq (by omega), Option.bind_some, fin_put hb]
    simp only [cond_true, smOp_eq (to_maxi (bulk_len ht)), Option.bind_some]
end Go.Vm
