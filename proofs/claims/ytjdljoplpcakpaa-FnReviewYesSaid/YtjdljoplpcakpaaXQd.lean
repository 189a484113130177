/- Plain laws of the draws: a reader of bytes, and what it draws. Conditions: each law's own premises. -/
import Derived.Test.YtjdljoplpcakpaaXQc
namespace Go.Vm
open Go Go.Sx
set_option linter.unusedSimpArgs false
set_option linter.unusedVariables false

theorem xor64_pos {a b : Int} (ha : 0 ≤ a) (ha' : a ≤ 9223372036854775807) (hb : 0 ≤ b) (hb' : b ≤ 9223372036854775807) : 0 ≤ xor64 a b ∧ xor64 a b ≤ 9223372036854775807 := by
  obtain ⟨n, rfl⟩ := Int.eq_ofNat_of_zero_le ha
  obtain ⟨m, rfl⟩ := Int.eq_ofNat_of_zero_le hb
  have hn : n < 2 ^ 63 := by omega
  have hm : m < 2 ^ 63 := by omega
  have hx : n ^^^ m < 2 ^ 63 := Nat.xor_lt_two_pow hn hm
  have h1 : (BitVec.ofInt 64 (n : Int) ^^^ BitVec.ofInt 64 (m : Int)).toNat = n ^^^ m := by
    rw [BitVec.toNat_xor, BitVec.toNat_ofInt, BitVec.toNat_ofInt]
    have e1 : ((n : Int) % (2 ^ 64 : Nat)).toNat = n := by omega
    have e2 : ((m : Int) % (2 ^ 64 : Nat)).toNat = m := by omega
    rw [e1, e2]
  unfold xor64
  rw [h1]
  have := w64_id (n := ((n ^^^ m : Nat) : Int)) (by omega) (by omega)
  unfold w64 at this
  rw [this]
  omega
theorem tmod_range {a n : Int} (ha : 0 ≤ a) (hn : 0 < n) : 0 ≤ Int.tmod a n ∧ Int.tmod a n < n := ⟨Int.tmod_nonneg n ha, Int.tmod_lt_of_pos a hn⟩
/-- The reader stands well. -/
def RdOk (r : l30Rd) (p : Int) : Prop := r.b.length ≤ 2000 ∧ 0 ≤ r.p ∧ r.p ≤ p

theorem byte_range (u : UInt8) : 0 ≤ ((UInt8.toNat u : Nat) : Int) ∧ ((UInt8.toNat u : Nat) : Int) ≤ 255 := by
  have := UInt8.toNat_lt u
  omega
theorem tdiv_range {a n : Int} (ha : 0 ≤ a) (hn : 0 < n) : 0 ≤ Int.tdiv a n ∧ Int.tdiv a n ≤ a := ⟨Int.tdiv_nonneg ha (by omega), Int.tdiv_le_self n ha⟩
/-- One draw: a number below n, and the reader one step on. -/
theorem pick_eq {r : l30Rd} {n p : Int} (h : RdOk r p) (hp : p ≤ 1099511627776) (hn : 0 < n) (hn' : n ≤ 1073741824) : ∃ k, spec_l30Rd_pick r n = some (k, r.p + 1) ∧ 0 ≤ k ∧ k < n := by
  obtain ⟨hb, h0, h1⟩ := h
  unfold spec_l30Rd_pick
  have e1 : w64 (r.p + 1) = r.p + 1 := w64_id (by omega) (by omega)
  have e2 : w64 (r.p + 1 - 1) = r.p := by rw [w64_id (by omega) (by omega)]; omega
  simp only [jn, e1, e2]
  rw [decide_eq_false (show ¬ n < 1 by omega), cond_false]
  cases hl : (((r.b.length : Int)) == (0 : Int)) with
  | true => exact ⟨0, rfl, by omega, hn⟩
  | false =>
    have hlen : 0 < (r.b.length : Int) := by
      have : (r.b.length : Int) ≠ 0 := by simpa using hl
      omega
    rw [cond_false]
    by_cases hlt : r.p < (r.b.length : Int)
    · obtain ⟨u, hu⟩ := gi_some' h0 hlt
      obtain ⟨u0, u1⟩ := byte_range u
      rw [decide_eq_true hlt, cond_true, hu, Option.bind_some, if_neg (by omega), Option.bind_some, w64_id (by omega) (by omega)]
      exact ⟨_, rfl, tmod_range u0 hn⟩
    · rw [decide_eq_false hlt, cond_false, if_neg (by omega), Option.bind_some]
      obtain ⟨a0, a1⟩ := tmod_range h0 hlen
      obtain ⟨u, hu⟩ := gi_some' a0 a1
      obtain ⟨u0, u1⟩ := byte_range u
      have e3 : w64 (r.p * 7) = r.p * 7 := w64_id (by omega) (by omega)
      have e4 : w64 (r.p * 7 + 3) = r.p * 7 + 3 := w64_id (by omega) (by omega)
      obtain ⟨b0, b1⟩ := tmod_range (show 0 ≤ r.p * 7 + 3 by omega) hlen
      obtain ⟨v, hv⟩ := gi_some' b0 b1
      obtain ⟨v0, v1⟩ := byte_range v
      obtain ⟨d0, d1⟩ := tdiv_range h0 hlen
      rw [hu, Option.bind_some, if_neg (by omega), Option.bind_some, e3, e4, hv, Option.bind_some, Option.bind_some, Option.bind_some]
      rw [w64_id (n := (UInt8.toNat u : Int)) (by omega) (by omega), w64_id (n := (UInt8.toNat u : Int) * 131) (by omega) (by omega),
        w64_id (n := (UInt8.toNat v : Int)) (by omega) (by omega), w64_id (n := (UInt8.toNat v : Int) * 1117) (by omega) (by omega),
        w64_id (n := (UInt8.toNat u : Int) * 131 + (UInt8.toNat v : Int) * 1117) (by omega) (by omega), w64_id (n := r.p * 29) (by omega) (by omega),
        w64_id (n := (UInt8.toNat u : Int) * 131 + (UInt8.toNat v : Int) * 1117 + r.p * 29) (by omega) (by omega),
        w64_id (n := Int.tdiv r.p (r.b.length : Int)) (by omega) (by omega), w64_id (n := Int.tdiv r.p (r.b.length : Int) * 53) (by omega) (by omega),
        w64_id (n := (UInt8.toNat u : Int) * 131 + (UInt8.toNat v : Int) * 1117 + r.p * 29 + Int.tdiv r.p (r.b.length : Int) * 53) (by omega) (by omega)]
      obtain ⟨q0, q1⟩ := tdiv_range (a := (UInt8.toNat u : Int) * 131 + (UInt8.toNat v : Int) * 1117 + r.p * 29 + Int.tdiv r.p (r.b.length : Int) * 53) (n := 64) (by omega) (by omega)
      rw [w64_id (n := Int.tdiv ((UInt8.toNat u : Int) * 131 + (UInt8.toNat v : Int) * 1117 + r.p * 29 + Int.tdiv r.p (r.b.length : Int) * 53) 64) (by omega) (by omega)]
      exact ⟨_, rfl, tmod_range (xor64_pos (by omega) (by omega) (by omega) (by omega)).1 hn⟩

theorem short_eq {r : l30Rd} {p : Int} (h : RdOk r p) (hp : p ≤ 1099511627776) : ∃ t, spec_l30Short r = some (t, r.p + 1) ∧ Bk.fit t ∧ Bk.bulk t ≤ 4 := by
  obtain ⟨k, hk, k0, k1⟩ := pick_eq (n := 4) h hp (by omega) (by omega)
  unfold spec_l30Short
  rw [hk, Option.bind_some]
  have hc : k = 0 ∨ k = 1 ∨ k = 2 ∨ k = 3 := by omega
  rcases hc with rfl | rfl | rfl | rfl
  · exact ⟨[], rfl, ⟨by simp [maxi], by simp⟩, by decide⟩
  · exact ⟨[[97]], rfl, ⟨by simp [maxi], by simp [Bk.fit, maxi]⟩, by decide⟩
  · exact ⟨[[98]], rfl, ⟨by simp [maxi], by simp [Bk.fit, maxi]⟩, by decide⟩
  · exact ⟨[[99], [100]], rfl, ⟨by simp [maxi], by simp [Bk.fit, maxi]⟩, by decide⟩
theorem RdOk.on {r : l30Rd} {p q : Int} (h : RdOk r p) (k : Int) (hk : 0 ≤ k) (hq : r.p + k ≤ q) : RdOk ⟨r.b, r.p + k⟩ q := ⟨h.1, by have := h.2.1; show 0 ≤ r.p + k; omega, hq⟩
theorem memo_eq {r : l30Rd} {p : Int} (h : RdOk r p) (hp : p ≤ 1099511627000) : ∃ m, spec_l30Memo r = some (m, r.p + 4) ∧ Bk.fit m ∧ Bk.bulk m ≤ 16 := by
  have hr := h.2.2
  obtain ⟨a, ha, fa, ba⟩ := short_eq h (by omega)
  obtain ⟨b, hb, fb, bb⟩ := short_eq (h.on 1 (by omega) (q := p + 1) (by omega)) (by omega)
  obtain ⟨c, hc, fc, bc⟩ := short_eq (h.on 2 (by omega) (q := p + 2) (by omega)) (by omega)
  obtain ⟨d, hd, fd, bd⟩ := short_eq (h.on 3 (by omega) (q := p + 3) (by omega)) (by omega)
  refine ⟨⟨a, b, c, d⟩, ?_, ⟨fa, fb, fc, fd⟩, ?_⟩
  · unfold spec_l30Memo
    simp only [ha, Option.bind_some, hb, show r.p + 1 + 1 = r.p + 2 by omega, hc, show r.p + 2 + 1 = r.p + 3 by omega, hd, show r.p + 3 + 1 = r.p + 4 by omega]
  · show Bk.bulk a + (Bk.bulk b + (Bk.bulk c + Bk.bulk d)) ≤ 16
    omega

theorem putB_bulk {xs : List Memo} {m : Memo} : Bk.bulk (putB xs m).1 ≤ Bk.bulk xs + 1 + Bk.bulk m := by
  have h1 := sumB_filter (b := Bk.bulk) (p := keepB m) xs
  have h2 := List.length_filter_le (keepB m) xs
  unfold putB
  cases memosB xs
  · simp [bulkL, sumB]
  · cases memosB (putL xs m)
    · simp only [cond_true, cond_false]; omega
    · simp only [cond_true, putL, bulkL, sumB_app, sumB, List.length_append, List.length_cons, List.length_nil]
      omega
theorem memos_l1 {x0 : l30Rd} {R : Type} (K : List Memo → Int → Int → Option (List Memo × Int)) : ∀ (m : Nat) (out : List Memo) (n q p : Int), 0 ≤ n → n < m → Bk.fit out → (Bk.bulk out : Int) + 17 * n ≤ 1000 → RdOk ⟨x0.b, q⟩ p → p + 4 * n ≤ 1099511627000 →
    ∃ out' q', spec_l30Memos_l1 x0 K m out n q = K out' 0 q' ∧ Bk.fit out' ∧ (Bk.bulk out' : Int) ≤ Bk.bulk out + 17 * n ∧ RdOk ⟨x0.b, q'⟩ (p + 4 * n)
  | 0, out, n, q, p, h0, hm, _, _, _, _ => by omega
  | m + 1, out, n, q, p, h0, hm, hf, hb, hr, hp => by
    simp only [spec_l30Memos_l1, jn]
    by_cases hn : 0 < n
    · rw [decide_eq_true hn, cond_true]
      obtain ⟨x, hx, fx, bx⟩ := memo_eq hr (by omega)
      have hq := hr.2.2
      have hq0 := hr.2.1
      have hw : w64 (n - 1) = n - 1 := w64_id (by omega) (by omega)
      rw [hx, Option.bind_some, sMemoPut_eq hf fx (by omega) (by omega), Option.bind_some, hw]
      have hr2 : RdOk ⟨x0.b, q + 4⟩ (p + 4) := ⟨hr.1, by show 0 ≤ q + 4; exact Int.le_trans hq0 (by show q ≤ q + 4; omega), by show q + 4 ≤ p + 4; have : q ≤ p := hq; omega⟩
      have hbk := putB_bulk (xs := out) (m := x)
      have hfl : Bk.fit (putB out x).1 := putB_fit hf fx (bulk_len (show Bk.bulk out ≤ 1048576 by omega))
      cases (putB out x).2 with
      | true =>
        obtain ⟨o', q', e, f', b', r'⟩ := memos_l1 (R := R) K m (putB out x).1 (n - 1) (q + 4) (p + 4) (by omega) (by omega) hfl (by omega) hr2 (by omega)
        exact ⟨o', q', by rw [cond_true]; exact e, f', by omega, by rw [show p + 4 * n = p + 4 + 4 * (n - 1) by omega]; exact r'⟩
      | false =>
        obtain ⟨o', q', e, f', b', r'⟩ := memos_l1 (R := R) K m out (n - 1) (q + 4) (p + 4) (by omega) (by omega) hf (by omega) hr2 (by omega)
        exact ⟨o', q', by rw [cond_false]; exact e, f', by omega, by rw [show p + 4 * n = p + 4 + 4 * (n - 1) by omega]; exact r'⟩
    · have hz : n = 0 := by omega
      subst hz
      rw [decide_eq_false hn, cond_false]
      exact ⟨out, q, rfl, hf, by omega, by simpa using hr⟩

theorem open_eq {code : List Byte} (h : code.length ≤ 1048576) : ∃ b : List Byte, spec_l30Open code = some ⟨b, 0⟩ ∧ b.length ≤ 2000 := by
  unfold spec_l30Open
  simp only [jn]
  by_cases hl : (2000 : Int) < (code.length : Int)
  · rw [decide_eq_true hl, cond_true]
    have : slM code 0 2000 = some (code.take 2000) := slM_take (i := 2000) (by omega)
    rw [this, Option.bind_some]
    exact ⟨_, rfl, by simp; omega⟩
  · rw [decide_eq_false hl, cond_false]
    exact ⟨_, rfl, by omega⟩
theorem memos_eq {r : l30Rd} {p : Int} (h : RdOk r p) (hp : p ≤ 1000000) : ∃ xs q, spec_l30Memos r = some (xs, q) ∧ Bk.fit xs ∧ Bk.bulk xs ≤ 200 ∧ RdOk ⟨r.b, q⟩ (p + 100) := by
  have h2 := h.2.2
  have h3 := h.2.1
  obtain ⟨k, hk, k0, k1⟩ := pick_eq (n := 5) h (by omega) (by omega) (by omega)
  unfold spec_l30Memos
  rw [hk, Option.bind_some]
  simp only [jn]
  obtain ⟨o, q, e, fo, bo, ro⟩ := memos_l1 (x0 := r) (R := Int) (fun y10 y13 y16 => (spec_l30Rd_pick (l30Rd.mk r.b y16) 14).bind fun z58 =>
    bif ((z58.1 : Int) == (0 : Int)) then
      ((spec_l30Memo (l30Rd.mk r.b z58.2)).bind fun z65 =>
      (apM y10 [Memo.mk z65.1.Old z65.1.One z65.1.Two z65.1.Done]).bind fun q78 =>
      some (q78, z65.2))
    else
      (some (y10, z58.2))) ((k - 0).toNat + 1) [] k (r.p + 1) (p + 1) k0 (by omega) ⟨by simp [maxi], by simp⟩ (by simp [bulkL, sumB]; omega) (h.on 1 (by omega) (by omega)) (by omega)
  rw [e]
  have hb0 : Bk.bulk ([] : List Memo) = 0 := rfl
  rw [hb0] at bo
  have hq := ro.2.2
  have hq0 := ro.2.1
  have hqq : q ≤ p + 1 + 4 * k := hq
  have hqp : 0 ≤ q := hq0
  obtain ⟨j, hj, j0, j1⟩ := pick_eq (n := 14) ro (by omega) (by omega) (by omega)
  rw [hj, Option.bind_some]
  cases hjz : (j == (0 : Int)) with
  | false =>
    simp only [hjz, cond_false]
    exact ⟨o, _, rfl, fo, by omega, ro.on 1 (by omega) (by show q + 1 ≤ p + 100; omega)⟩
  | true =>
    simp only [hjz, cond_true]
    obtain ⟨x, hx, fx, bx⟩ := memo_eq (ro.on 1 (by omega) (q := p + 50) (by show q + 1 ≤ p + 50; omega)) (by omega)
    have hol : o.length ≤ 200 := bulk_len (by omega)
    have hx' : spec_l30Memo ⟨r.b, q + 1⟩ = some (x, q + 1 + 4) := hx
    rw [hx', Option.bind_some, ap1 (by omega), Option.bind_some]
    refine ⟨o ++ [x], _, rfl, ⟨by simp [maxi]; omega, fun y hy => ?_⟩, ?_, ⟨ro.1, by show 0 ≤ q + 1 + 4; omega, by show q + 1 + 4 ≤ p + 100; omega⟩⟩
    · rcases List.mem_append.1 hy with h1 | h1
      · exact fo.2 y h1
      · rw [List.mem_singleton] at h1; rw [h1]; exact fx
    · rw [bulkL, sumB_app, List.length_append]
      rw [bulkL] at bo
      simp only [sumB, List.length_cons, List.length_nil]
      omega

theorem draw_eq {code : List Byte} (h : code.length ≤ 1048576) : ∃ xs m, spec_DrawMemoPut code = some (xs, m) ∧ Bk.fit xs ∧ Bk.fit m ∧ Bk.bulk xs ≤ 200 ∧ Bk.bulk m ≤ 16 := by
  obtain ⟨b, hb, hl⟩ := open_eq h
  obtain ⟨xs, q, hx, fx, bx, rx⟩ := memos_eq (r := ⟨b, 0⟩) (p := 0) ⟨hl, by show (0 : Int) ≤ 0; omega, by show (0 : Int) ≤ 0; omega⟩ (by omega)
  obtain ⟨m, hm, fm, bm⟩ := memo_eq rx (by omega)
  refine ⟨xs, m, ?_, fx, fm, bx, bm⟩
  unfold spec_DrawMemoPut
  rw [hb, Option.bind_some, hx, Option.bind_some]
  simp only [hm, Option.bind_some]
theorem smTexts_eq {xs ys : List Str} (h : xs.length ≤ maxi) : laws_smTexts xs ys = some (xs == ys) := by
  unfold laws_smTexts
  simp only [bne_len, jn, fuel0]
  by_cases hn : xs.length = ys.length
  · rw [hn, beq_self_eq_true, Bool.not_true, cond_false, ← hn]
    rw [loop_eq (α := Str) (r0 := some false) (Z := some true) (f := fun m i => laws_smTexts_l1 xs ys (fun _ _ => some true) m false i) hn (fun m i x y hx hy => by
      simp only [laws_smTexts_l1, lt_of hx, gi_of hx, gi_of hy, cond_true, Option.bind_some, w64_ix (ix_of hx) h, bne]
      cases x == y <;> rfl) (fun m => by simp only [laws_smTexts_l1, end_of, cond_false]) (by omega)]
    cases xs == ys <;> rfl
  · rw [beq_false_of_ne hn, Bool.not_false, cond_true, beq_false_of_ne (fun e => hn (by rw [e]))]
theorem memo_beq (x y : Memo) : (x == y) = (x.Old == y.Old && (x.One == y.One && (x.Two == y.Two && x.Done == y.Done))) := by
  obtain ⟨a, b, c, d⟩ := x
  obtain ⟨a', b', c', d'⟩ := y
  have hb : ∀ b c : Bool, (b = true ↔ c = true) → b = c := by decide
  apply hb
  simp
theorem smMemos_eq {xs ys : List Memo} (h : Bk.fit xs) : laws_smMemos xs ys = some (xs == ys) := by
  have hl := fit_len h
  unfold laws_smMemos
  simp only [bne_len, jn, fuel0]
  by_cases hn : xs.length = ys.length
  · rw [hn, beq_self_eq_true, Bool.not_true, cond_false, ← hn]
    rw [loop_eq (α := Memo) (r0 := some false) (Z := some true) (f := fun m i => laws_smMemos_l1 xs ys (fun _ _ => some true) m false i) hn (fun m i x y hx hy => by
      obtain ⟨f1, f2, f3, f4⟩ := fit_at h hx
      simp only [laws_smMemos_l1, jn, lt_of hx, gi_of hx, gi_of hy, cond_true, Option.bind_some, smTexts_eq (fit_len f1), smTexts_eq (fit_len f2), smTexts_eq (fit_len f3), smTexts_eq (fit_len f4), w64_ix (ix_of hx) hl, memo_beq]
      cases x.Old == y.Old <;> cases x.One == y.One <;> cases x.Two == y.Two <;> cases x.Done == y.Done <;> rfl) (fun m => by simp only [laws_smMemos_l1, end_of, cond_false]) (by omega)]
    cases xs == ys <;> rfl
  · rw [beq_false_of_ne hn, Bool.not_false, cond_true, beq_false_of_ne (fun e => hn (by rw [e]))]

/-! ### FnMemoPut -/
def swap (m : Memo) : Memo := ⟨m.Old, m.Two, m.One, m.Done⟩
theorem sameB_swap (q m : Memo) : sameB q (swap m).Old (swap m).One (swap m).Two = sameB q m.Old m.One m.Two := by
  unfold sameB swap
  cases q.Old == m.Old <;> cases q.One == m.One <;> cases q.Two == m.Two <;> cases q.One == m.Two <;> cases q.Two == m.One <;> rfl
theorem sameB_self (m : Memo) : sameB m m.Old m.One m.Two = true := by simp [sameB]
theorem putL_again (xs : List Memo) (m : Memo) : putL (putL xs m) m = putL xs m := by
  unfold putL
  rw [List.filter_append, List.filter_filter]
  have h1 : (fun a => keepB m a && keepB m a) = keepB m := by funext a; simp
  rw [h1]
  have h2 : [m].filter (keepB m) = [] := by simp [keepB, sameB_self]
  rw [h2, List.append_nil]
theorem putL_swap (xs : List Memo) (m : Memo) : putL (putL xs m) (swap m) = xs.filter (keepB m) ++ [swap m] := by
  have hk : keepB (swap m) = keepB m := by funext q; unfold keepB; rw [sameB_swap]
  unfold putL
  rw [hk, List.filter_append, List.filter_filter]
  have h1 : (fun a => keepB m a && keepB m a) = keepB m := by funext a; simp
  rw [h1]
  have h2 : [m].filter (keepB m) = [] := by simp [keepB, sameB_self]
  rw [h2, List.append_nil]
theorem okB_swap (ys : List Memo) (m : Memo) : okB ys (swap m) = okB ys m := by
  have h : (fun q => !sameB q (swap m).Old (swap m).One (swap m).Two) = (fun q => !sameB q m.Old m.One m.Two) := by funext q; rw [sameB_swap]
  unfold okB
  rw [h]
  have h2 : ((swap m).One == (swap m).Two) = (m.One == m.Two) := by
    have hb : ∀ b c : Bool, (b = true ↔ c = true) → b = c := by decide
    apply hb
    simp only [swap, beq_iff_eq]
    exact eq_comm
  rw [h2]
  unfold swap
  cases textB m.Old <;> cases textB m.One <;> cases textB m.Two <;> cases textB m.Done <;> rfl
theorem memosB_last {ys : List Memo} {m m' : Memo} (h : ∀ zs, okB zs m' = okB zs m) : memosB (ys ++ [m']) = memosB (ys ++ [m]) := by
  unfold memosB
  have hl : (ys ++ [m']).length = (ys ++ [m]).length := by simp
  rw [hl]
  congr 1
  refine allN_congr fun j _ hj => ?_
  simp only [List.length_append, List.length_cons, List.length_nil] at hj
  by_cases e : j < ys.length
  · rw [List.getElem?_append_left e, List.getElem?_append_left e, List.take_append_of_le_length (by omega), List.take_append_of_le_length (by omega)]
  · have e2 : j = ys.length := by omega
    subst e2
    simp [h]

theorem swap_bulk (m : Memo) : Bk.bulk (swap m) = Bk.bulk m := by
  rw [bulkM, bulkM]; unfold swap; simp only; omega
theorem FnMemoPut_eq {code : List Byte} (h : Bk.fit code) : laws_FnMemoPut code = some true := by
  unfold laws_FnMemoPut
  by_cases hc : (1048576 : Int) < (code.length : Int)
  · rw [decide_eq_true hc]; rfl
  rw [decide_eq_false hc, cond_false]
  obtain ⟨xs, m, hd, fx, fm, bx, bm⟩ := draw_eq (code := code) (by omega)
  have hl : xs.length ≤ 1048576 := bulk_len (show Bk.bulk xs ≤ 1048576 by omega)
  have fp := putB_fit fx fm hl
  have bp := putB_bulk (xs := xs) (m := m)
  have fs : Bk.fit (swap m) := ⟨fm.1, fm.2.2.1, fm.2.1, fm.2.2.2⟩
  have he : (⟨m.Old, m.Two, m.One, m.Done⟩ : Memo) = swap m := rfl
  rw [hd, Option.bind_some, iMemoPut_eq fx fm (by omega) (by omega), Option.bind_some, sMemoPut_eq fx fm (by omega) (by omega), Option.bind_some]
  simp only [jn, bne_self_eq_false, cond_false, smMemos_eq fp, beq_self_eq_true, Bool.not_true, Option.bind_some, MemosOk_eq fx, sMemosOk_eq fx, cond_true, MemosOk_eq fp, he,
    iMemoPut_eq fp fm (show Bk.bulk (putB xs m).1 ≤ 1048576 by omega) (show Bk.bulk m ≤ 1048576 by omega), iMemoPut_eq fp fs (show Bk.bulk (putB xs m).1 ≤ 1048576 by omega) (show Bk.bulk (swap m) ≤ 1048576 by rw [swap_bulk]; omega)]
  cases hx : memosB xs with
  | false => simp
  | true =>
    cases hp : memosB (putL xs m) with
    | false =>
      have e : putB xs m = (xs, false) := by unfold putB; rw [hx, hp]; rfl
      rw [e]
      simp
    | true =>
      have e : putB xs m = (putL xs m, true) := by unfold putB; rw [hx, hp]; rfl
      have e2 : putB (putL xs m) m = (putL xs m, true) := by unfold putB; rw [putL_again, hp]; rfl
      have hs : memosB (putL (putL xs m) (swap m)) = true := by
        rw [putL_swap, memosB_last (m := m) (fun zs => okB_swap zs m)]
        exact hp
      have e3 : putB (putL xs m) (swap m) = (putL (putL xs m) (swap m), true) := by unfold putB; rw [hs, hp]; rfl
      rw [e, e2, e3]
      have hlen : (putL (putL xs m) (swap m)).length = (putL xs m).length := by rw [putL_swap]; simp [putL]
      have fp2 : Bk.fit (putL xs m) := by have := fp; rw [e] at this; exact this
      simp [hp, smMemos_eq fp2, hlen]
end Go.Vm
