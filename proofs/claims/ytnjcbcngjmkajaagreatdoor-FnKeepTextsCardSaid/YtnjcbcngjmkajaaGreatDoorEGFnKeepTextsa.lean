/- Plain law FnKeepTexts, and what it uses: what the models answer. Conditions: each law's own premises. -/
import Derived.Test.YtnjcbcngjmkajaaGreatDoorEM0
import Derived.Test.YtnjcbcngjmkajaaGreatDoorELw
import Derived.Sort.Walk0
import Derived.Lib.SplitLaws
import Derived.Test.YtnjcbcngjmkajaaGreatDoorEX
import Derived.Lib.Join
namespace Go.Vm
open Go Go.Sx
set_option linter.unusedSimpArgs false
set_option linter.unusedVariables false
def chB (c : UInt8) : Bool := !(decide ((c.toNat : Int) < 32) || decide (126 < (c.toNat : Int)))
def zdk (s : Str) : Bool := !decide (12 < (s.length : Int)) && s.all chB
def zao (xs : List Str) : Bool := !decide (10 < (xs.length : Int)) && xs.all zdk
theorem zkv (a b : Int) : decide (a ≤ b) = !decide (b < a) := by
  by_cases h : a ≤ b
  · rw [decide_eq_true h, decide_eq_false (by omega)]; rfl
  · rw [decide_eq_false h, decide_eq_true (by omega)]; rfl
theorem zkw {s : Str} (h : s.length ≤ maxi) : zeB s = some (zdk s) := by
  unfold zeB zdk
  simp only [jn, zaA]
  cases decide ((12 : Int) < (s.length : Int))
  case true => rfl
  rw [cond_false, za5 (α := UInt8) (xs := s) (p := chB) (r0 := some false) (Z := some true) (f := fun m i => zb2 s (fun _ _ => some true) m false i) (fun m i x hx => by
    simp only [zb2, jn, zat hx, zgS hx, cond_true, Option.bind_some, zag (zaP hx) h, chB]
    cases decide ((x.toNat : Int) < 32) <;> cases decide (126 < (x.toNat : Int)) <;> rfl) (fun m => by simp only [zb2, zai, cond_false]) (by omega)]
  cases s.all chB <;> rfl
theorem zkx {s : Str} (h : s.length ≤ maxi) : zex s = some (zdk s) := by
  unfold zex zdk
  simp only [jn, zaA, zkv]
  rw [za5 (α := UInt8) (xs := s) (p := chB) (r0 := some false) (Z := some (!decide (12 < (s.length : Int)))) (f := fun m i => zbU s (fun _ _ => some (!decide (12 < (s.length : Int)))) m false i) (fun m i x hx => by
    simp only [zbU, jn, zat hx, zgS hx, cond_true, Option.bind_some, zag (zaP hx) h, chB]
    cases decide ((x.toNat : Int) < 32) <;> cases decide (126 < (x.toNat : Int)) <;> rfl) (fun m => by simp only [zbU, zai, cond_false]) (by omega)]
  cases s.all chB <;> cases decide (12 < (s.length : Int)) <;> rfl
theorem zes {xs : List Str} (h : Bk.fit xs) : zbv xs = some (zao xs) := by
  have hl := zjW h
  unfold zbv zao
  simp only [jn, zaA]
  cases decide ((10 : Int) < (xs.length : Int))
  case true => rfl
  rw [cond_false, za5 (α := Str) (xs := xs) (p := zdk) (r0 := some false) (Z := some true) (f := fun m i => zb3 xs (fun _ _ => some true) m false i) (fun m i x hx => by
    have hx2 : x.length ≤ maxi := zlJ h hx
    simp only [zb3, zat hx, zaf hx, cond_true, Option.bind_some, zag (zaP hx) hl, zkw hx2]
    cases zdk x <;> rfl) (fun m => by simp only [zb3, zai, cond_false]) (by omega)]
  cases xs.all zdk <;> rfl
theorem ziz {xs : List Str} (h : Bk.fit xs) : zcW xs = some (zao xs) := by
  have hl := zjW h
  unfold zcW zao
  simp only [jn, zaA, zkv]
  rw [za5 (α := Str) (xs := xs) (p := zdk) (r0 := some false) (Z := some (!decide (10 < (xs.length : Int)))) (f := fun m i => zc1 xs (fun _ _ => some (!decide (10 < (xs.length : Int)))) m false i) (fun m i x hx => by
    have hx2 : x.length ≤ maxi := zlJ h hx
    simp only [zc1, zat hx, zaf hx, cond_true, Option.bind_some, zag (zaP hx) hl, zkx hx2]
    cases zdk x <;> rfl) (fun m => by simp only [zc1, zai, cond_false]) (by omega)]
  cases xs.all zdk <;> cases decide (10 < (xs.length : Int)) <;> rfl
theorem zaj {t : List Str} (h : zao t = true) : t.length ≤ 10 := by
  unfold zao at h
  simp only [Bool.and_eq_true, Bool.not_eq_true', decide_eq_false_iff_not] at h
  omega
theorem zaO {t : List Str} (h : zao t = true) : ∀ s ∈ t, zdk s = true := by
  unfold zao at h
  simp only [Bool.and_eq_true, List.all_eq_true] at h
  exact h.2
theorem zg2 {s : Str} (h : zdk s = true) : s.length ≤ 12 := by
  unfold zdk at h
  simp only [Bool.and_eq_true, Bool.not_eq_true', decide_eq_false_iff_not] at h
  omega
theorem zky {xs ys : List Str} (h : xs.length ≤ maxi) : zaE xs ys = some (xs == ys) := by
  unfold zaE
  simp only [zjX, jn, zaA]
  by_cases hn : xs.length = ys.length
  · rw [hn, beq_self_eq_true, Bool.not_true, cond_false, ← hn]
    rw [zjV (α := Str) (r0 := some false) (Z := some true) (f := fun m i => zaq xs ys (fun _ _ => some true) m false i) hn (fun m i x y hx hy => by
      simp only [zaq, zat hx, zaf hx, zaf hy, cond_true, Option.bind_some, zag (zaP hx) h, bne]
      cases x == y <;> rfl) (fun m => by simp only [zaq, zai, cond_false]) (by omega)]
    cases xs == ys <;> rfl
  · rw [beq_false_of_ne hn, Bool.not_false, cond_true, beq_false_of_ne (fun e => hn (by rw [e]))]
theorem zfc {xs ys : List Str} (h : xs.length ≤ maxi) : zcO xs ys = some (xs == ys) := by
  unfold zcO
  simp only [zjX, jn, zaA]
  by_cases hn : xs.length = ys.length
  · rw [hn, beq_self_eq_true, Bool.not_true, cond_false, ← hn]
    rw [zjV (α := Str) (r0 := some false) (Z := some true) (f := fun m i => zbZ xs ys (fun _ _ => some true) m false i) hn (fun m i x y hx hy => by
      simp only [zbZ, zat hx, zaf hx, zaf hy, cond_true, Option.bind_some, zag (zaP hx) h, bne]
      cases x == y <;> rfl) (fun m => by simp only [zbZ, zai, cond_false]) (by omega)]
    cases xs == ys <;> rfl
  · rw [beq_false_of_ne hn, Bool.not_false, cond_true, beq_false_of_ne (fun e => hn (by rw [e]))]
theorem ziA {x : List Str} (h : x.length ≤ 1048576) : zdw x = some x := by
  unfold zdw
  rw [apN h]; rfl
theorem zkz {a b : Int} (ha : 0 ≤ a) (ha' : a ≤ 9223372036854775807) (hb : 0 ≤ b) (hb' : b ≤ 9223372036854775807) : 0 ≤ zod a b ∧ zod a b ≤ 9223372036854775807 := by
  obtain ⟨n, rfl⟩ := Int.eq_ofNat_of_zero_le ha
  obtain ⟨m, rfl⟩ := Int.eq_ofNat_of_zero_le hb
  have hn : n < 2 ^ 63 := by omega
  have hm : m < 2 ^ 63 := by omega
  have hx : n ^^^ m < 2 ^ 63 := Nat.xor_lt_two_pow hn hm
  have h1 : (BitVec.ofInt 64 (n : Int) ^^^ BitVec.ofInt 64 (m : Int)).toNat = n ^^^ m := by
    rw [BitVec.toNat_xor, BitVec.toNat_ofInt, BitVec.toNat_ofInt]
    have e1 : ((n : Int) % (2 ^ 64 : Nat)).toNat = n := by omega
    have e2 : ((m : Int) % (2 ^ 64 : Nat)).toNat = m := by omega
    rw [e1, e2]
  unfold zod
  rw [h1]
  have := zar (n := ((n ^^^ m : Nat) : Int)) (by omega) (by omega)
  unfold w64 at this
  rw [this]
  omega
theorem zeI {a n : Int} (ha : 0 ≤ a) (hn : 0 < n) : 0 ≤ Int.tmod a n ∧ Int.tmod a n < n := ⟨Int.tmod_nonneg n ha, Int.tmod_lt_of_pos a hn⟩
def zeo (r : l30Rd) (p : Int) : Prop := r.b.length ≤ 2000 ∧ 0 ≤ r.p ∧ r.p ≤ p
theorem zfv (u : UInt8) : 0 ≤ ((UInt8.toNat u : Nat) : Int) ∧ ((UInt8.toNat u : Nat) : Int) ≤ 255 := by
  have := UInt8.toNat_lt u
  omega
theorem zg3 {a n : Int} (ha : 0 ≤ a) (hn : 0 < n) : 0 ≤ Int.tdiv a n ∧ Int.tdiv a n ≤ a := ⟨Int.tdiv_nonneg ha (by omega), Int.tdiv_le_self n ha⟩
theorem zfd {r : l30Rd} {n p : Int} (h : zeo r p) (hp : p ≤ 1099511627776) (hn : 0 < n) (hn' : n ≤ 1073741824) : ∃ k, zaC r n = some (k, r.p + 1) ∧ 0 ≤ k ∧ k < n := by
  obtain ⟨hb, h0, h1⟩ := h
  unfold zaC
  have e1 : w64 (r.p + 1) = r.p + 1 := zar (by omega) (by omega)
  have e2 : w64 (r.p + 1 - 1) = r.p := by rw [zar (by omega) (by omega)]; omega
  simp only [jn, e1, e2]
  rw [decide_eq_false (show ¬ n < 1 by omega), cond_false]
  cases hl : (((r.b.length : Int)) == (0 : Int)) with
  | true => exact ⟨0, rfl, by omega, hn⟩
  | false =>
    have hlen : 0 < (r.b.length : Int) := by
      have : (r.b.length : Int) ≠ 0 := by simpa using hl
      omega
    rw [cond_false]
    by_cases hlt : r.p < (r.b.length : Int)
    · obtain ⟨u, hu⟩ := zfK h0 hlt
      obtain ⟨u0, u1⟩ := zfv u
      rw [decide_eq_true hlt, cond_true, hu, Option.bind_some, if_neg (by omega), Option.bind_some, zar (by omega) (by omega)]
      exact ⟨_, rfl, zeI u0 hn⟩
    · rw [decide_eq_false hlt, cond_false, if_neg (by omega), Option.bind_some]
      obtain ⟨a0, a1⟩ := zeI h0 hlen
      obtain ⟨u, hu⟩ := zfK a0 a1
      obtain ⟨u0, u1⟩ := zfv u
      have e3 : w64 (r.p * 7) = r.p * 7 := zar (by omega) (by omega)
      have e4 : w64 (r.p * 7 + 3) = r.p * 7 + 3 := zar (by omega) (by omega)
      obtain ⟨b0, b1⟩ := zeI (show 0 ≤ r.p * 7 + 3 by omega) hlen
      obtain ⟨v, hv⟩ := zfK b0 b1
      obtain ⟨v0, v1⟩ := zfv v
      obtain ⟨d0, d1⟩ := zg3 h0 hlen
      rw [hu, Option.bind_some, if_neg (by omega), Option.bind_some, e3, e4, hv, Option.bind_some, Option.bind_some, Option.bind_some]
      rw [zar (n := (UInt8.toNat u : Int)) (by omega) (by omega), zar (n := (UInt8.toNat u : Int) * 131) (by omega) (by omega),
        zar (n := (UInt8.toNat v : Int)) (by omega) (by omega), zar (n := (UInt8.toNat v : Int) * 1117) (by omega) (by omega),
        zar (n := (UInt8.toNat u : Int) * 131 + (UInt8.toNat v : Int) * 1117) (by omega) (by omega), zar (n := r.p * 29) (by omega) (by omega),
        zar (n := (UInt8.toNat u : Int) * 131 + (UInt8.toNat v : Int) * 1117 + r.p * 29) (by omega) (by omega),
        zar (n := Int.tdiv r.p (r.b.length : Int)) (by omega) (by omega), zar (n := Int.tdiv r.p (r.b.length : Int) * 53) (by omega) (by omega),
        zar (n := (UInt8.toNat u : Int) * 131 + (UInt8.toNat v : Int) * 1117 + r.p * 29 + Int.tdiv r.p (r.b.length : Int) * 53) (by omega) (by omega)]
      obtain ⟨q0, q1⟩ := zg3 (a := (UInt8.toNat u : Int) * 131 + (UInt8.toNat v : Int) * 1117 + r.p * 29 + Int.tdiv r.p (r.b.length : Int) * 53) (n := 64) (by omega) (by omega)
      rw [zar (n := Int.tdiv ((UInt8.toNat u : Int) * 131 + (UInt8.toNat v : Int) * 1117 + r.p * 29 + Int.tdiv r.p (r.b.length : Int) * 53) 64) (by omega) (by omega)]
      exact ⟨_, rfl, zeI (zkz (by omega) (by omega) (by omega) (by omega)).1 hn⟩
theorem zeo.on {r : l30Rd} {p q : Int} (h : zeo r p) (k : Int) (hk : 0 ≤ k) (hq : r.p + k ≤ q) : zeo ⟨r.b, r.p + k⟩ q := ⟨h.1, by have := h.2.1; show 0 ≤ r.p + k; omega, hq⟩
theorem znU {code : List Byte} (h : code.length ≤ 1048576) : ∃ b : List Byte, zcY code = some ⟨b, 0⟩ ∧ b.length ≤ 2000 := by
  unfold zcY
  simp only [jn]
  by_cases hl : (2000 : Int) < (code.length : Int)
  · rw [decide_eq_true hl, cond_true]
    have : slM code 0 2000 = some (code.take 2000) := zfI (i := 2000) (by omega)
    rw [this, Option.bind_some]
    exact ⟨_, rfl, by simp; omega⟩
  · rw [decide_eq_false hl, cond_false]
    exact ⟨_, rfl, by omega⟩
theorem zfw {xs ys : List Str} (h : xs.length ≤ maxi) : zcJ xs ys = some (xs == ys) := by
  unfold zcJ
  simp only [zjX, jn, zaA]
  by_cases hn : xs.length = ys.length
  · rw [hn, beq_self_eq_true, Bool.not_true, cond_false, ← hn]
    rw [zjV (α := Str) (r0 := some false) (Z := some true) (f := fun m i => zbH xs ys (fun _ _ => some true) m false i) hn (fun m i x y hx hy => by
      simp only [zbH, zat hx, zaf hx, zaf hy, cond_true, Option.bind_some, zag (zaP hx) h, bne]
      cases x == y <;> rfl) (fun m => by simp only [zbH, zai, cond_false]) (by omega)]
    cases xs == ys <;> rfl
  · rw [beq_false_of_ne hn, Bool.not_false, cond_true, beq_false_of_ne (fun e => hn (by rw [e]))]
def zf2 : List Str → List Str → Int
  | [], _ => 0
  | _ :: _, [] => 0
  | x :: xs, y :: ys => if x == y then zf2 xs ys + 1 else maxI (zf2 xs (y :: ys)) (zf2 (x :: xs) ys)
termination_by a b => a.length + b.length
theorem zi2 (b : List Str) : zf2 [] b = 0 := by rw [zf2]
theorem zhA (a : List Str) : zf2 a [] = 0 := by cases a <;> rw [zf2]
theorem zhB (x y : Str) (xs ys : List Str) : zf2 (x :: xs) (y :: ys) = if x == y then zf2 xs ys + 1 else maxI (zf2 xs (y :: ys)) (zf2 (x :: xs) ys) := by rw [zf2]
theorem zdF : ∀ (n : Nat) (a b : List Str), a.length + b.length ≤ n → 0 ≤ zf2 a b ∧ zf2 a b ≤ a.length
  | _, [], b, _ => by rw [zi2]; simp
  | _, x :: xs, [], _ => by rw [zhA]; simp; omega
  | 0, x :: xs, y :: ys, h => by simp at h
  | n + 1, x :: xs, y :: ys, h => by
    simp only [List.length_cons] at h
    have h1 := zdF n xs ys (by omega)
    have h2 := zdF n xs (y :: ys) (by simp; omega)
    have h3 := zdF n (x :: xs) ys (by simp; omega)
    rw [zhB]
    simp only [List.length_cons] at *
    split
    · omega
    · unfold maxI; split <;> omega
theorem znV (a b : List Str) : 0 ≤ zf2 a b := (zdF _ a b (Nat.le_refl _)).1
theorem znW (a b : List Str) : zf2 a b ≤ a.length := (zdF _ a b (Nat.le_refl _)).2
def zhv (n : Nat) (g : Nat → Int) : List Int := (List.range n).map g
def zf3 (n m : Nat) (f : Nat → Nat → Int) : List (List Int) := (List.range n).map fun i => zhv m (f i)
theorem zjy {n : Nat} {g g' : Nat → Int} (h : ∀ k, k < n → g k = g' k) : zhv n g = zhv n g' := by
  unfold zhv
  exact List.map_congr_left fun k hk => h k (List.mem_range.1 hk)
theorem zeJ {n m : Nat} {f f' : Nat → Nat → Int} (h : ∀ i k, i < n → k < m → f i k = f' i k) : zf3 n m f = zf3 n m f' := by
  unfold zf3
  exact List.map_congr_left fun i hi => zjy fun k hk => h i k (List.mem_range.1 hi) hk
theorem ziB {n k : Nat} {g : Nat → Int} (h : k < n) : gi (zhv n g) (k : Int) = some (g k) := zaf (by simp [zhv, h])
theorem ziC {n m i : Nat} {f : Nat → Nat → Int} (h : i < n) : gi (zf3 n m f) (i : Int) = some (zhv m (f i)) := zaf (by simp [zf3, h])
theorem zmb {n k : Nat} {g : Nat → Int} {v : Int} (h : k < n) : siM (zhv n g) (k : Int) v = some (zhv n fun k' => if k' = k then v else g k') := by
  rw [zft (by simp [zhv, h])]
  congr 1
  apply List.ext_getElem?
  intro j
  unfold zhv
  by_cases hj : j = k
  · subst hj
    rw [List.getElem?_set_self (by simp [h])]
    simp [h]
  · rw [List.getElem?_set_ne (Ne.symm hj)]
    by_cases hl : j < n
    · simp [hl, hj]
    · rw [List.getElem?_eq_none (by simp; omega), List.getElem?_eq_none (by simp; omega)]
theorem zmc {n m i : Nat} {f : Nat → Nat → Int} {g : Nat → Int} (h : i < n) : siM (zf3 n m f) (i : Int) (zhv m g) = some (zf3 n m fun i' => if i' = i then g else f i') := by
  rw [zft (by simp [zf3, h])]
  congr 1
  apply List.ext_getElem?
  intro j
  unfold zf3
  by_cases hj : j = i
  · subst hj
    rw [List.getElem?_set_self (by simp [h])]
    simp [h]
  · rw [List.getElem?_set_ne (Ne.symm hj)]
    by_cases hl : j < n
    · simp [hl, hj]
    · rw [List.getElem?_eq_none (by simp; omega), List.getElem?_eq_none (by simp; omega)]
section
variable (a b : List Str)
def zcq (i k : Nat) : Int := zf2 (a.drop i) (b.drop k)
def zc8 (i k i' k' : Nat) : Int := if i < i' ∨ (i = i' ∧ k ≤ k') then zcq a b i' k' else 0
def zq5 : List (List Int) := zf3 (a.length + 1) (b.length + 1) (zcq a b)
end
section
variable {a b : List Str}
theorem zkA (i : Nat) : zcq a b i b.length = 0 := by unfold zcq; rw [List.drop_length, zhA]
theorem zjz (k : Nat) : zcq a b a.length k = 0 := by unfold zcq; rw [List.drop_length, zi2]
theorem zmd (i k : Nat) : 0 ≤ zcq a b i k := znV _ _
theorem zme (i k : Nat) : zcq a b i k ≤ a.length := by
  have := znW (a.drop i) (b.drop k)
  unfold zcq
  simp only [List.length_drop] at this
  omega
theorem zjA {i k : Nat} {x y : Str} (hx : a[i]? = some x) (hy : b[k]? = some y) : zcq a b i k = if x == y then zcq a b (i + 1) (k + 1) + 1 else maxI (zcq a b (i + 1) k) (zcq a b i (k + 1)) := by
  have hi := zaP hx
  have hk := zaP hy
  have ex : a[i] = x := by rw [List.getElem?_eq_getElem hi] at hx; exact Option.some.inj hx
  have ey : b[k] = y := by rw [List.getElem?_eq_getElem hk] at hy; exact Option.some.inj hy
  unfold zcq
  rw [List.drop_eq_getElem_cons hi, List.drop_eq_getElem_cons hk, zhB, ex, ey]
theorem zgk {i k : Nat} {v : Int} (hv : v = zcq a b i k) (n m : Nat) : zf3 n m (fun i' => if i' = i then (fun k' => if k' = k then v else zc8 a b i (k + 1) i k') else zc8 a b i (k + 1) i') = zf3 n m (zc8 a b i k) := by
  refine zeJ fun i' k' _ _ => ?_
  by_cases h1 : i' = i
  · subst h1
    rw [if_pos rfl]
    by_cases h2 : k' = k
    · subst h2
      rw [if_pos rfl, hv]
      simp [zc8]
    · rw [if_neg h2]
      simp only [zc8, Nat.lt_irrefl, false_or, true_and]
      by_cases h3 : k + 1 ≤ k'
      · rw [if_pos h3, if_pos (by omega)]
      · rw [if_neg h3, if_neg (by omega)]
  · rw [if_neg h1]
    simp only [zc8]
    by_cases h3 : i < i'
    · rw [if_pos (.inl h3), if_pos (.inl h3)]
    · rw [if_neg (by omega), if_neg (by omega)]
theorem zjB (i : Nat) : zf3 (a.length + 1) (b.length + 1) (zc8 a b (i + 1) 0) = zf3 (a.length + 1) (b.length + 1) (zc8 a b i b.length) := by
  refine zeJ fun i' k' _ hk => ?_
  simp only [zc8, Nat.zero_le, and_true]
  by_cases h : i < i'
  · rw [if_pos (by omega), if_pos (.inl h)]
  · rw [if_neg (by omega)]
    by_cases h2 : i = i' ∧ b.length ≤ k'
    · rw [if_pos (.inr h2), show k' = b.length by omega, zkA]
    · rw [if_neg (by omega)]
theorem ziD : zf3 (a.length + 1) (b.length + 1) (fun _ _ => 0) = zf3 (a.length + 1) (b.length + 1) (zc8 a b a.length 0) := by
  refine zeJ fun i' k' hi _ => ?_
  simp only [zc8, Nat.zero_le, and_true]
  by_cases h : a.length < i' ∨ a.length = i'
  · rw [if_pos h, show i' = a.length by omega, zjz]
  · rw [if_neg h]
theorem zkB : zf3 (a.length + 1) (b.length + 1) (zc8 a b 0 0) = zq5 a b := by
  refine zeJ fun i' k' _ _ => ?_
  simp only [zc8, Nat.zero_le, and_true]
  rw [if_pos (by omega)]
theorem zkC (hb : b.length ≤ maxi) (hN : (a.length : Int) + 1 ≤ 9223372036854775807) {i : Nat} (hi : i < a.length) {R : Int → List (List Int) → Option (List (List Int))} : ∀ (k m : Nat), k ≤ b.length → k < m →
    zbB a b (i : Int) R m ((k : Int) - 1) (zf3 (a.length + 1) (b.length + 1) (zc8 a b i k)) = R (-1) (zf3 (a.length + 1) (b.length + 1) (zc8 a b i 0))
  | 0, 0, _, h => by omega
  | 0, m + 1, _, _ => by
    simp only [zbB]
    rw [decide_eq_false (by omega)]; rfl
  | k + 1, 0, _, h => by omega
  | k + 1, m + 1, hk, hm => by
    unfold maxi at hb
    have hx : a[i]? = some a[i] := List.getElem?_eq_getElem hi
    have hy : b[k]? = some b[k] := List.getElem?_eq_getElem (by omega)
    have hst := zjA hx hy
    have e1 : (((k + 1 : Nat) : Int) - 1) = (k : Int) := by omega
    have e2 : w64 ((i : Int) + 1) = ((i + 1 : Nat) : Int) := by rw [zar (by omega) (by omega)]; omega
    have e3 : w64 ((k : Int) + 1) = ((k + 1 : Nat) : Int) := by rw [zar (by omega) (by omega)]; omega
    have e4 : w64 ((k : Int) - 1) = (k : Int) - 1 := zar (by omega) (by omega)
    have s1 : zc8 a b i (k + 1) (i + 1) (k + 1) = zcq a b (i + 1) (k + 1) := by simp [zc8]
    have s2 : zc8 a b i (k + 1) (i + 1) k = zcq a b (i + 1) k := by simp [zc8]
    have s3 : zc8 a b i (k + 1) i (k + 1) = zcq a b i (k + 1) := by simp [zc8]
    have lo := zmd (a := a) (b := b) (i + 1) (k + 1)
    have hi' := zme (a := a) (b := b) (i + 1) (k + 1)
    have ih := zkC (by unfold maxi; exact hb) hN hi (R := R) k m (by omega) (by omega)
    simp only [zbB, jn, e1, e2, e3, e4, zaf hx, zaf hy, Option.bind_some, decide_eq_true (show (0 : Int) ≤ (k : Int) by omega), cond_true,
      ziC (show i < a.length + 1 by omega), ziC (show i + 1 < a.length + 1 by omega), ziB (show k < b.length + 1 by omega), ziB (show k + 1 < b.length + 1 by omega), s1, s2, s3,
      zmb (show k < b.length + 1 by omega), zmc (show i < a.length + 1 by omega)]
    cases he : a[i] == b[k] with
    | true =>
      rw [he, if_pos rfl] at hst
      rw [cond_true, zar (by omega) (by omega), zgk hst.symm]
      exact ih
    | false =>
      rw [he, if_neg (by simp)] at hst
      rw [cond_false]
      unfold maxI at hst
      by_cases hc : zcq a b i (k + 1) ≤ zcq a b (i + 1) k
      · rw [if_neg (by omega)] at hst
        rw [decide_eq_true hc, cond_true, zgk hst.symm]
        exact ih
      · rw [if_pos (by omega)] at hst
        rw [decide_eq_false hc, cond_false, zgk hst.symm]
        exact ih
theorem zkD (hb : b.length ≤ maxi) (hN : (a.length : Int) + 1 ≤ 9223372036854775807) (hNb : (b.length : Int) + 1 ≤ 9223372036854775807) {R : Int → List (List Int) → Option (List (List Int))} : ∀ (i m : Nat), i ≤ a.length → i < m →
    za9 a b R m ((i : Int) - 1) (zf3 (a.length + 1) (b.length + 1) (zc8 a b i 0)) = R (-1) (zf3 (a.length + 1) (b.length + 1) (zc8 a b 0 0))
  | 0, 0, _, h => by omega
  | 0, m + 1, _, _ => by
    simp only [za9]
    rw [decide_eq_false (by omega)]; rfl
  | i + 1, 0, _, h => by omega
  | i + 1, m + 1, hi, hm => by
    have e1 : (((i + 1 : Nat) : Int) - 1) = (i : Int) := by omega
    have e2 : w64 ((b.length : Int) - 1) = (b.length : Int) - 1 := zar (by omega) (by omega)
    have e3 : w64 ((i : Int) - 1) = (i : Int) - 1 := zar (by omega) (by omega)
    simp only [za9, jn, e1, e2, decide_eq_true (show (0 : Int) ≤ (i : Int) by omega), cond_true]
    rw [zjB, zkC hb hN (by omega) b.length _ (Nat.le_refl _) (by omega), e3]
    exact zkD hb hN hNb i m (by omega) (by omega)
theorem zkE (ha : a.length ≤ 1000) (hb : b.length ≤ 1000) {R : List (List Int) → Int → Option (List (List Int))} : ∀ (n i m : Nat), i + n = a.length + 1 → n < m →
    zbC a b R m ((List.range i).map (fun _ => zhv (b.length + 1) fun _ => 0)) (i : Int) = R (zf3 (a.length + 1) (b.length + 1) fun _ _ => 0) ((a.length + 1 : Nat) : Int)
  | n, i, 0, _, h => by omega
  | 0, i, m + 1, hi, _ => by
    simp only [zbC]
    rw [decide_eq_false (by omega), show i = a.length + 1 by omega]
    simp [zf3]
  | n + 1, i, m + 1, hi, hm => by
    have e1 : w64 ((b.length : Int) + 1) = ((b.length + 1 : Nat) : Int) := by rw [zar (by omega) (by omega)]; omega
    have e2 : w64 ((i : Int) + 1) = ((i + 1 : Nat) : Int) := by rw [zar (by omega) (by omega)]; omega
    have hr : zhv (b.length + 1) (fun _ => 0) = List.replicate (b.length + 1) (0 : Int) := by
      unfold zhv
      rw [List.map_const', List.length_range]
    simp only [zbC, e1, e2, decide_eq_true (show (i : Int) ≤ (a.length : Int) by omega), cond_true, zoR (show b.length + 1 ≤ lim by unfold lim; omega), Option.bind_some]
    rw [zgQ (by simp [lim]; omega), Option.bind_some]
    have hset : (List.range i).map (fun _ => zhv (b.length + 1) fun _ => 0) ++ [List.replicate (b.length + 1) (0 : Int)] = (List.range (i + 1)).map (fun _ => zhv (b.length + 1) fun _ => 0) := by
      simp [List.range_succ, hr]
    rw [hset]
    exact zkE ha hb n (i + 1) m (by omega) (by omega)
theorem znX (ha : a.length ≤ 1000) (hb : b.length ≤ 1000) : zdZ a b = some (zq5 a b) := by
  unfold zdZ
  have e2 : w64 ((a.length : Int) - 1) = (a.length : Int) - 1 := zar (by omega) (by omega)
  simp only [jn, e2]
  have h1 := zkE (a := a) (b := b) ha hb
    (R := fun y3 y6 => za9 a b (fun y28 y30 => some y30) (((a.length : Int) - 1 + 1 - 0).toNat + 1) ((a.length : Int) - 1) y3) (a.length + 1) 0 (((a.length : Int) + 1 - 0).toNat + 1) (by omega) (by omega)
  simp only [List.range_zero, List.map_nil] at h1
  refine h1.trans ?_
  rw [ziD, zkD (by unfold maxi; omega) (by omega) (by omega) a.length _ (Nat.le_refl _) (by omega), zkB]
end
def mtF : List Str → List Str → Nat → List Int
  | [], _, _ => []
  | _ :: xs, [], k => -1 :: mtF xs [] k
  | x :: xs, y :: ys, k => if x == y then (k : Int) :: mtF xs ys (k + 1) else if zf2 (x :: xs) ys ≤ zf2 xs (y :: ys) then -1 :: mtF xs (y :: ys) k else mtF (x :: xs) ys (k + 1)
termination_by a b _ => a.length + b.length
theorem zhj (b : List Str) (k : Nat) : mtF [] b k = [] := by rw [mtF]
theorem zhk (x : Str) (xs : List Str) (k : Nat) : mtF (x :: xs) [] k = -1 :: mtF xs [] k := by rw [mtF]
theorem zgI (x y : Str) (xs ys : List Str) (k : Nat) : mtF (x :: xs) (y :: ys) k = if x == y then (k : Int) :: mtF xs ys (k + 1) else if zf2 (x :: xs) ys ≤ zf2 xs (y :: ys) then -1 :: mtF xs (y :: ys) k else mtF (x :: xs) ys (k + 1) := by rw [mtF]
def mt2 (a b : List Str) : List Int := mtF a b 0
theorem zpK {xs : List Int} {x : Int} (h : xs.length ≤ 1000000) : apM xs [x] = some (xs ++ [x]) := zgQ (by simp [lim]; omega)
section
variable {a b : List Str}
theorem zkF {i k : Nat} (hi : i ≤ a.length) (hk : k ≤ b.length) : ∃ r, gi (zq5 a b) (i : Int) = some r ∧ gi r (k : Int) = some (zcq a b i k) :=
  ⟨_, ziC (by omega), ziB (by omega)⟩
theorem zfx {i : Nat} (h : i < a.length) : a.drop i = a[i] :: a.drop (i + 1) := List.drop_eq_getElem_cons h
theorem zhC (ha : a.length ≤ 1000) (hb : b.length ≤ 1000) : ∀ (m i k : Nat) (out : List Int), (a.length - i) + (b.length - k) < m → i ≤ a.length → k ≤ b.length → out.length = i →
    zbD a b (zq5 a b) (fun y5 _ _ => some y5) m out (k : Int) (i : Int) = some (out ++ mtF (a.drop i) (b.drop k) k)
  | 0, i, k, out, hm, _, _, _ => by omega
  | m + 1, i, k, out, hm, hi, hk, ho => by
    have e2 : w64 ((i : Int) + 1) = ((i + 1 : Nat) : Int) := by rw [zar (by omega) (by omega)]; omega
    have e3 : w64 ((k : Int) + 1) = ((k + 1 : Nat) : Int) := by rw [zar (by omega) (by omega)]; omega
    simp only [zbD, jn, e2, e3]
    by_cases hil : i < a.length
    case neg =>
      rw [decide_eq_false (by omega), cond_false, show i = a.length by omega, List.drop_length, zhj, List.append_nil]
    have hx : a[i]? = some a[i] := List.getElem?_eq_getElem hil
    rw [decide_eq_true (by omega), cond_true, zfx hil]
    by_cases hkl : k < b.length
    case neg =>
      have hke : k = b.length := by omega
      rw [decide_eq_false (by omega), cond_false, cond_false, decide_eq_true (by omega), cond_true, cond_true, zpK (by omega), Option.bind_some,
        zhC ha hb m (i + 1) k _ (by omega) (by omega) hk (by simp [ho])]
      rw [hke, List.drop_length, zhk]
      simp
    have hy : b[k]? = some b[k] := List.getElem?_eq_getElem hkl
    rw [decide_eq_true (by omega), cond_true, zaf hx, Option.bind_some, zaf hy, Option.bind_some, zfx hkl, zgI]
    cases he : a[i] == b[k] with
    | true =>
      rw [cond_true, zpK (by omega), Option.bind_some, zhC ha hb m (i + 1) (k + 1) _ (by omega) (by omega) (by omega) (by simp [ho])]
      simp
    | false =>
      rw [cond_false, decide_eq_false (by omega), cond_false]
      obtain ⟨r1, h1, h2⟩ := zkF (a := a) (b := b) (i := i + 1) (k := k) (by omega) (by omega)
      obtain ⟨r3, h3, h4⟩ := zkF (a := a) (b := b) (i := i) (k := k + 1) (by omega) (by omega)
      rw [h1, Option.bind_some, h2, Option.bind_some, h3, Option.bind_some, h4, Option.bind_some]
      have c1 : zcq a b i (k + 1) = zf2 (a[i] :: a.drop (i + 1)) (b.drop (k + 1)) := by unfold zcq; rw [zfx hil]
      have c2 : zcq a b (i + 1) k = zf2 (a.drop (i + 1)) (b[k] :: b.drop (k + 1)) := by unfold zcq; rw [zfx hkl]
      rw [← c1, ← c2]
      by_cases hc : zcq a b i (k + 1) ≤ zcq a b (i + 1) k
      · rw [decide_eq_true hc, cond_true, zpK (by omega), Option.bind_some, zhC ha hb m (i + 1) k _ (by omega) (by omega) hk (by simp [ho]), if_neg (by simp), if_pos hc, zfx hkl]
        simp
      · rw [decide_eq_false hc, cond_false, zhC ha hb m i (k + 1) _ (by omega) hi (by omega) ho, if_neg (by simp), if_neg hc, zfx hil]
theorem zhD (ha : a.length ≤ 1000) (hb : b.length ≤ 1000) : zdt a b = some (mt2 a b) := by
  unfold zdt
  rw [znX ha hb, Option.bind_some]
  simp only [jn]
  have := zhC ha hb (a.length + b.length + 1) 0 0 [] (by omega) (by omega) (by omega) rfl
  simpa [mt2] using this
end
def Asc (hi : Int) : Int → List Int → Prop
  | _, [] => True
  | lo, x :: l => (x = -1 ∧ Asc hi lo l) ∨ (lo ≤ x ∧ x < hi ∧ Asc hi (x + 1) l)
theorem Asc.mono {hi : Int} : ∀ {l : List Int} {lo lo' : Int}, lo' ≤ lo → Asc hi lo l → Asc hi lo' l
  | [], _, _, _, _ => trivial
  | x :: l, lo, lo', h, .inl ⟨h1, h2⟩ => .inl ⟨h1, Asc.mono h h2⟩
  | x :: l, lo, lo', h, .inr ⟨h1, h2, h3⟩ => .inr ⟨by omega, h2, h3⟩
theorem zfV : ∀ (n : Nat) (a b : List Str) (k : Nat), a.length + b.length ≤ n → Asc ((k + b.length : Nat) : Int) (k : Int) (mtF a b k) ∧ (mtF a b k).length = a.length
  | _, [], b, k, _ => by rw [zhj]; exact ⟨trivial, rfl⟩
  | 0, x :: xs, b, k, h => by simp at h
  | n + 1, x :: xs, [], k, h => by
    rw [zhk]
    have := zfV n xs [] k (by simp at h ⊢; omega)
    exact ⟨.inl ⟨rfl, this.1⟩, by simp [this.2]⟩
  | n + 1, x :: xs, y :: ys, k, h => by
    simp only [List.length_cons] at h
    rw [zgI]
    split
    · have := zfV n xs ys (k + 1) (by omega)
      refine ⟨.inr ⟨Int.le_refl _, by simp only [List.length_cons]; omega, ?_⟩, by simp [this.2]⟩
      have h1 := this.1
      rw [show ((k + (y :: ys).length : Nat) : Int) = ((k + 1 + ys.length : Nat) : Int) by simp only [List.length_cons]; omega, show (k : Int) + 1 = ((k + 1 : Nat) : Int) by omega]
      exact h1
    · split
      · have := zfV n xs (y :: ys) k (by simp; omega)
        exact ⟨.inl ⟨rfl, this.1⟩, by simp [this.2]⟩
      · have := zfV n (x :: xs) ys (k + 1) (by simp; omega)
        refine ⟨?_, by simp [this.2]⟩
        have h1 := this.1
        rw [show ((k + (y :: ys).length : Nat) : Int) = ((k + 1 + ys.length : Nat) : Int) by simp only [List.length_cons]; omega]
        exact h1.mono (by omega)
theorem zgl (a b : List Str) : Asc (b.length : Int) 0 (mt2 a b) ∧ (mt2 a b).length = a.length := by
  have := zfV _ a b 0 (Nat.le_refl _)
  simpa [mt2] using this
theorem Asc.snoc {hi : Int} (h0 : 0 ≤ hi) : ∀ {l : List Int} {lo : Int}, lo ≤ hi → Asc hi lo l → Asc (hi + 1) lo (l ++ [hi])
  | [], lo, h, _ => .inr ⟨h, by omega, trivial⟩
  | x :: l, lo, h, .inl ⟨h1, h2⟩ => .inl ⟨h1, Asc.snoc h0 h h2⟩
  | x :: l, lo, h, .inr ⟨h1, h2, h3⟩ => .inr ⟨h1, by omega, Asc.snoc h0 (by omega) h3⟩
end Go.Vm
namespace Go.Sx
open Go
theorem zjC {R α σ : Type} {xs : List α} {step : σ → α → Option σ} {r0 : Option R} (Inv : Nat → σ → Prop) {f : Nat → σ → Int → Option R} {Z : σ → Option R} {s0 : σ}
    (hs : ∀ m (i : Nat) x s, xs[i]? = some x → Inv i s → (f (m + 1) s (i : Int) = match step s x with | some s' => f m s' ((i + 1 : Nat) : Int) | none => r0) ∧ ∀ s', step s x = some s' → Inv (i + 1) s')
    (he : ∀ m s, Inv xs.length s → f (m + 1) s (xs.length : Int) = Z s) {m : Nat} (hm : xs.length < m) (h0 : Inv 0 s0) :
    f m s0 0 = (match xs.foldlM step s0 with | some s => Z s | none => r0) ∧ ∀ s, xs.foldlM step s0 = some s → Inv xs.length s := by
  have key : ∀ k i m s, i + k = xs.length → k < m → Inv i s → f m s (i : Int) = (match (xs.drop i).foldlM step s with | some s => Z s | none => r0) ∧ ∀ s', (xs.drop i).foldlM step s = some s' → Inv xs.length s' := by
    intro k
    induction k with
    | zero =>
      intro i m s hi hm hI
      obtain ⟨m, rfl⟩ : ∃ q, m = q + 1 := ⟨m - 1, by omega⟩
      have hii : i = xs.length := by omega
      subst hii
      rw [he m s hI, List.drop_length]
      exact ⟨rfl, fun s' h => by have : s = s' := by simpa using h
                                 rw [← this]; exact hI⟩
    | succ k ih =>
      intro i m s hi hm hI
      obtain ⟨m, rfl⟩ : ∃ q, m = q + 1 := ⟨m - 1, by omega⟩
      have hlt : i < xs.length := by omega
      obtain ⟨h1, h2⟩ := hs m i xs[i] s (List.getElem?_eq_getElem hlt) hI
      rw [h1, List.drop_eq_getElem_cons hlt, List.foldlM_cons]
      cases hst : step s xs[i] with
      | none => exact ⟨rfl, fun s' h => by simp at h⟩
      | some s1 =>
        obtain ⟨h3, h4⟩ := ih (i + 1) m s1 (by omega) (by omega) (h2 s1 hst)
        exact ⟨h3, h4⟩
  have := key xs.length 0 m s0 (by omega) hm h0
  simpa using this
theorem zgm {R α : Type} {xs : List α} {p : α → Bool} {r : α → Option R} {Z : Option R} {f : Nat → Int → Option R}
    (hs : ∀ m (i : Nat) x, xs[i]? = some x → f (m + 1) (i : Int) = bif p x then r x else f m ((i + 1 : Nat) : Int)) (he : ∀ m, f (m + 1) (xs.length : Int) = Z) {m : Nat} (hm : xs.length < m) :
    f m 0 = match xs.find? p with | some x => r x | none => Z := by
  have key : ∀ k i m, i + k = xs.length → k < m → f m (i : Int) = match (xs.drop i).find? p with | some x => r x | none => Z := by
    intro k
    induction k with
    | zero =>
      intro i m hi hm
      obtain ⟨m, rfl⟩ : ∃ q, m = q + 1 := ⟨m - 1, by omega⟩
      rw [show i = xs.length by omega, he, List.drop_length]
      rfl
    | succ k ih =>
      intro i m hi hm
      obtain ⟨m, rfl⟩ : ∃ q, m = q + 1 := ⟨m - 1, by omega⟩
      have hlt : i < xs.length := by omega
      rw [hs m i xs[i] (List.getElem?_eq_getElem hlt), List.drop_eq_getElem_cons hlt, List.find?_cons]
      cases p xs[i] with
      | true => rfl
      | false => exact ih (i + 1) m (by omega) (by omega)
  have := key xs.length 0 m (by omega) hm
  simpa using this
end Go.Sx
namespace Go.Vm
open Go Go.Sx
set_option linter.unusedSimpArgs false
set_option linter.unusedVariables false
def lnP (l : List Str) : Part := ⟨false, l, [], [], []⟩
def zee (o a b : List Str) : Part := bif a == o || a == b then lnP b else bif b == o then lnP a else ⟨true, [], o, a, b⟩
def zi1 (out : List Part) (p : Part) : List Part :=
  bif !p.Clash && p.Lines.length == 0 then out else
  match out[out.length - 1]? with
  | some q => bif !p.Clash && !q.Clash then out.set (out.length - 1) ⟨q.Clash, q.Lines ++ p.Lines, q.Old, q.One, q.Two⟩ else out ++ [p]
  | none => out ++ [p]
def PB (n : Nat) (out : List Part) : Prop := out.length ≤ n ∧ ∀ q ∈ out, q.Lines.length ≤ 1000 * n
theorem PB.mono {n m : Nat} {out : List Part} (h : PB n out) (hm : n ≤ m) : PB m out := ⟨Nat.le_trans h.1 hm, fun q hq => Nat.le_trans (h.2 q hq) (Nat.mul_le_mul_left _ hm)⟩
theorem ziE {n : Nat} {out : List Part} {p : Part} (h : PB n out) (hp : p.Lines.length ≤ 1000) : PB (n + 1) (zi1 out p) := by
  have happ : PB (n + 1) (out ++ [p]) := ⟨by simp; exact h.1, fun q hq => by
    rcases List.mem_append.1 hq with h1 | h1
    · have := h.2 q h1; omega
    · rw [List.mem_singleton] at h1; rw [h1]; omega⟩
  unfold zi1
  cases (!p.Clash && p.Lines.length == 0) with
  | true => exact h.mono (by omega)
  | false =>
    rw [cond_false]
    split
    · rename_i q hq
      cases (!p.Clash && !q.Clash) with
      | false => exact happ
      | true =>
        rw [cond_true]
        refine ⟨by rw [List.length_set]; have := h.1; omega, fun r hr => ?_⟩
        rcases List.mem_or_eq_of_mem_set hr with h1 | h1
        · have := h.2 r h1; omega
        · rw [h1]
          have := h.2 q (List.mem_of_getElem? hq)
          simp only [List.length_append]
          omega
    · exact happ
theorem zgn {o a b : List Str} (ha : a.length ≤ 1000) (hb : b.length ≤ 1000) : (zee o a b).Lines.length ≤ 1000 := by
  unfold zee lnP
  cases (a == o || a == b)
  · cases b == o
    · simp
    · exact ha
  · exact hb
theorem apL {xs ys : List Str} (h : xs.length ≤ 4000000) (h' : ys.length ≤ 1000) : apM xs ys = some (xs ++ ys) := zgQ (by simp [lim]; omega)
theorem zkG {o a b : List Str} (ho : o.length ≤ 1000) (ha : a.length ≤ 1000) (hb : b.length ≤ 1000) : zez o a b = some (zee o a b) := by
  unfold zez zee lnP
  simp only [jn, zfc (show a.length ≤ maxi by unfold maxi; omega), zfc (show b.length ≤ maxi by unfold maxi; omega), Option.bind_some, apN (show o.length ≤ 1048576 by omega), apN (show a.length ≤ 1048576 by omega), apN (show b.length ≤ 1048576 by omega)]
  cases a == o <;> cases a == b <;> cases b == o <;> rfl
theorem znY {n : Nat} (h : n ≤ 4000000) (h0 : 0 < n) : w64 ((n : Int) - 1) = ((n - 1 : Nat) : Int) := by rw [zar (by omega) (by omega)]; omega
theorem zi3 {n : Nat} {out : List Part} {p : Part} (h : PB n out) (hn : n ≤ 4000) (hp : p.Lines.length ≤ 1000) : zeN out p = some (zi1 out p) := by
  have hl := h.1
  unfold zeN zi1
  have hz : (((p.Lines.length : Int)) == (0 : Int)) = (p.Lines.length == 0) := by
    have : ∀ b c : Bool, (b = true ↔ c = true) → b = c := by decide
    apply this; simp
  simp only [jn, hz, show (⟨p.Clash, p.Lines, p.Old, p.One, p.Two⟩ : Part) = p from rfl]
  have happ : apM out [p] = some (out ++ [p]) := zgQ (by simp [lim]; omega)
  cases hc : p.Clash with
  | true =>
    simp only [Bool.not_true, Bool.false_and, cond_false, happ, Option.bind_some]
    by_cases h0 : 0 < out.length
    · rw [decide_eq_true (by omega), cond_true, List.getElem?_eq_getElem (by omega)]
    · rw [decide_eq_false (by omega), cond_false, List.getElem?_eq_none (by omega)]
  | false =>
    simp only [Bool.not_false, Bool.true_and, cond_true]
    cases hz2 : (p.Lines.length == 0) with
    | true => rfl
    | false =>
      simp only [cond_false]
      by_cases h0 : 0 < out.length
      · obtain ⟨q, hq⟩ : ∃ q, out[out.length - 1]? = some q := ⟨_, List.getElem?_eq_getElem (by omega)⟩
        have hql := h.2 q (List.mem_of_getElem? hq)
        rw [decide_eq_true (by omega), cond_true, znY (by omega) h0, zaf hq, Option.bind_some, hq]
        cases hqc : q.Clash with
        | true => simp [happ, hqc]
        | false =>
          simp only [hqc, Bool.not_false, cond_true, Option.bind_some]
          rw [apL (by omega) hp, Option.bind_some, zft (by omega), Option.bind_some]
      · rw [decide_eq_false (by omega), cond_false, List.getElem?_eq_none (by omega), happ]
        rfl
def zcS {α : Type} (xs : List α) (l h : Int) : List α := (xs.take h.toNat).drop l.toNat
theorem zdl {α : Type} (xs : List α) (l h : Int) : (zcS xs l h).length ≤ xs.length := by unfold zcS; simp; omega
def zeR (o a b : List Str) (i x y io ia ib : Int) (out : List Part) : List Part :=
  match o[i.toNat]? with
  | some s => zi1 (zi1 out (zee (zcS o io i) (zcS a ia x) (zcS b ib y))) (lnP [s])
  | none => zi1 out (zee (zcS o io i) (zcS a ia x) (zcS b ib y))
def zbN (o a b : List Str) : Int → List Int → List Int → Int → Int → Int → List Part → List Part
  | i, x :: ma, y :: mb, io, ia, ib, out =>
    bif decide (x < 0) || decide (y < 0) then zbN o a b (i + 1) ma mb io ia ib out
    else zbN o a b (i + 1) ma mb (i + 1) (x + 1) (y + 1) (zeR o a b i x y io ia ib out)
  | _, [], _, _, _, _, out => out
  | _, _ :: _, [], _, _, _, out => out
def zbq (o a b : List Str) : List Part := zbN o a b 0 (mt2 o a ++ [(a.length : Int)]) (mt2 o b ++ [(b.length : Int)]) 0 0 0 []
theorem zhE {o a b : List Str} (ha : a.length ≤ 1000) (hb : b.length ≤ 1000) {i x y io ia ib : Int} {n : Nat} {out : List Part} (h : PB n out) : PB (n + 2) (zeR o a b i x y io ia ib out) := by
  have h1 := ziE h (zgn (o := zcS o io i) (Nat.le_trans (zdl a ia x) ha) (Nat.le_trans (zdl b ib y) hb))
  unfold zeR
  split
  · exact ziE h1 (by simp [lnP])
  · exact h1.mono (by omega)
theorem zfL {o a b : List Str} (ha : a.length ≤ 1000) (hb : b.length ≤ 1000) : ∀ (ma mb : List Int) (i io ia ib : Int) (n : Nat) (out : List Part), PB n out → PB (n + 2 * ma.length) (zbN o a b i ma mb io ia ib out)
  | [], mb, i, io, ia, ib, n, out, h => by rw [zbN.eq_def]; exact h.mono (by omega)
  | x :: ma, [], i, io, ia, ib, n, out, h => by rw [zbN.eq_def]; exact h.mono (by omega)
  | x :: ma, y :: mb, i, io, ia, ib, n, out, h => by
    rw [zbN]
    cases (decide (x < 0) || decide (y < 0)) with
    | true => exact (zfL ha hb ma mb _ _ _ _ n out h).mono (by simp; omega)
    | false => exact (zfL ha hb ma mb _ _ _ _ (n + 2) _ (zhE ha hb h)).mono (by simp; omega)
theorem zkH {l : List Int} {i : Nat} {x : Int} (h : l[i]? = some x) : l.drop i = x :: l.drop (i + 1) := by
  have hi := zaP h
  rw [List.drop_eq_getElem_cons hi]
  rw [List.getElem?_eq_getElem hi] at h
  rw [Option.some.inj h]
theorem zgo {o a b : List Str} (ho : o.length ≤ 1000) (ha : a.length ≤ 1000) (hb : b.length ≤ 1000) {ma mb : List Int} (hla : ma.length = o.length + 1) (hlb : mb.length = o.length + 1) :
    ∀ (n i m : Nat) (io ia ib : Int) (out : List Part), i + n = o.length + 1 → n < m → Asc ((a.length : Int) + 1) ia (ma.drop i) → Asc ((b.length : Int) + 1) ib (mb.drop i) → 0 ≤ io → io ≤ i → 0 ≤ ia → 0 ≤ ib → PB (2 * i) out →
      zcm o a b ma mb (fun y45 _ _ _ _ => some y45) m out io ia ib (i : Int) = some (zbN o a b i (ma.drop i) (mb.drop i) io ia ib out)
  | n, i, 0, _, _, _, _, _, hm, _, _, _, _, _, _, _ => by omega
  | 0, i, m + 1, io, ia, ib, out, hi, _, _, _, _, _, _, _, _ => by
    simp only [zcm]
    rw [decide_eq_false (by omega), cond_false, List.drop_eq_nil_of_le (by omega), zbN.eq_def]
  | n + 1, i, m + 1, io, ia, ib, out, hi, hm, hA, hB, h0, h1, h2, h3, hP => by
    obtain ⟨x, hx⟩ : ∃ x, ma[i]? = some x := ⟨_, List.getElem?_eq_getElem (by omega)⟩
    obtain ⟨y, hy⟩ : ∃ y, mb[i]? = some y := ⟨_, List.getElem?_eq_getElem (by omega)⟩
    rw [zkH hx] at hA ⊢
    rw [zkH hy] at hB ⊢
    have ei : w64 ((i : Int) + 1) = ((i + 1 : Nat) : Int) := by rw [zar (by omega) (by omega)]; omega
    have ei' : (i : Int) + 1 = ((i + 1 : Nat) : Int) := by omega
    rw [ei'] at ei
    have dn : decide ((-1 : Int) < 0) = true := rfl
    have hstay : ∀ (hA' : Asc ((a.length : Int) + 1) ia (ma.drop (i + 1))) (hB' : Asc ((b.length : Int) + 1) ib (mb.drop (i + 1))), zcm o a b ma mb (fun y45 _ _ _ _ => some y45) m out io ia ib ((i + 1 : Nat) : Int) = some (zbN o a b ((i + 1 : Nat) : Int) (ma.drop (i + 1)) (mb.drop (i + 1)) io ia ib out) :=
      fun hA' hB' => zgo ho ha hb hla hlb n (i + 1) m io ia ib out (by omega) (by omega) hA' hB' h0 (by omega) h2 h3 (hP.mono (by omega))
    rw [zbN]
    simp only [zcm, jn, zaf hx, zaf hy, Option.bind_some, ei, ei', hla]
    rw [decide_eq_true (show (i : Int) < ((o.length + 1 : Nat) : Int) by omega), cond_true]
    rcases hA with ⟨rfl, hA⟩ | ⟨ha1, ha2, hA⟩
    · rcases hB with ⟨rfl, hB⟩ | ⟨hb1, hb2, hB⟩
      · simp only [dn, cond_true, Bool.true_or]; exact hstay hA hB
      · simp only [dn, cond_true, Bool.true_or]; exact hstay hA (hB.mono (by omega))
    rcases hB with ⟨rfl, hB⟩ | ⟨hb1, hb2, hB⟩
    · rw [decide_eq_false (show ¬ x < 0 by omega), cond_false]
      simp only [dn, cond_true, Bool.false_or]
      exact hstay (hA.mono (by omega)) hB
    rw [decide_eq_false (show ¬ x < 0 by omega), decide_eq_false (show ¬ y < 0 by omega)]
    simp only [cond_false, Bool.or_false]
    have ex : w64 (x + 1) = x + 1 := zar (by omega) (by omega)
    have ey : w64 (y + 1) = y + 1 := zar (by omega) (by omega)
    have c1 := zdl o io i
    have c2 := zdl a ia x
    have c3 := zdl b ib y
    have hP1 := ziE hP (zgn (o := zcS o io i) (Nat.le_trans c2 ha) (Nat.le_trans c3 hb))
    have hS := zhE (o := o) ha hb (i := i) (x := x) (y := y) (io := io) (ia := ia) (ib := ib) hP
    have hfin := zgo ho ha hb hla hlb n (i + 1) m ((i + 1 : Nat) : Int) (x + 1) (y + 1) (zeR o a b i x y io ia ib out) (by omega) (by omega) hA hB (by omega) (by omega) (by omega) (by omega) (hS.mono (by omega))
    rw [zh4 h0 h1 (by omega), Option.bind_some, zh4 h2 ha1 (by omega), Option.bind_some, zh4 h3 hb1 (by omega), Option.bind_some,
      show ((o.take ((i : Int)).toNat).drop io.toNat) = zcS o io i from rfl, show ((a.take x.toNat).drop ia.toNat) = zcS a ia x from rfl, show ((b.take y.toNat).drop ib.toNat) = zcS b ib y from rfl,
      zkG (by omega) (by omega) (by omega), Option.bind_some]
    rw [show (⟨(zee (zcS o io i) (zcS a ia x) (zcS b ib y)).Clash, (zee (zcS o io i) (zcS a ia x) (zcS b ib y)).Lines, (zee (zcS o io i) (zcS a ia x) (zcS b ib y)).Old, (zee (zcS o io i) (zcS a ia x) (zcS b ib y)).One, (zee (zcS o io i) (zcS a ia x) (zcS b ib y)).Two⟩ : Part) = zee (zcS o io i) (zcS a ia x) (zcS b ib y) from rfl,
      zi3 hP (by omega) (zgn (Nat.le_trans c2 ha) (Nat.le_trans c3 hb)), Option.bind_some]
    by_cases hio : i < o.length
    · have hs : o[i]? = some o[i] := List.getElem?_eq_getElem hio
      rw [decide_eq_true (by omega), cond_true, zaf hs, Option.bind_some, show (⟨false, [o[i]], [], [], []⟩ : Part) = lnP [o[i]] from rfl, zi3 hP1 (by omega) (by simp [lnP]), Option.bind_some, ex, ey]
      have hm : zeR o a b i x y io ia ib out = zi1 (zi1 out (zee (zcS o io i) (zcS a ia x) (zcS b ib y))) (lnP [o[i]]) := by
        unfold zeR
        rw [show ((i : Int)).toNat = i by omega, hs]
      rw [← hm]
      exact hfin
    · rw [decide_eq_false (by omega), cond_false, ex, ey]
      have hm : zeR o a b i x y io ia ib out = zi1 out (zee (zcS o io i) (zcS a ia x) (zcS b ib y)) := by
        unfold zeR
        rw [show ((i : Int)).toNat = i by omega, List.getElem?_eq_none (by omega)]
      rw [← hm]
      exact hfin
theorem zgJ (o a : List Str) : Asc ((a.length : Int) + 1) 0 (mt2 o a ++ [(a.length : Int)]) ∧ (mt2 o a ++ [(a.length : Int)]).length = o.length + 1 := by
  have h := zgl o a
  exact ⟨Asc.snoc (by omega) (by omega) h.1, by simp [h.2]⟩
theorem znZ {o a b : List Str} (ho : o.length ≤ 1000) (ha : a.length ≤ 1000) (hb : b.length ≤ 1000) : zfO o a b = some (zbq o a b) := by
  obtain ⟨a1, a2⟩ := zgJ o a
  obtain ⟨b1, b2⟩ := zgJ o b
  have l1 := (zgl o a).2
  have l2 := (zgl o b).2
  unfold zfO
  rw [zhD ho ha, Option.bind_some, zpK (by omega), Option.bind_some, zhD ho hb, Option.bind_some, zpK (by omega), Option.bind_some]
  simp only [jn]
  have := zgo ho ha hb a2 b2 (o.length + 1) 0 ((((mt2 o a ++ [(a.length : Int)]).length : Int) - 0).toNat + 1) 0 0 0 [] (by omega) (by omega) a1 b1 (by omega) (by omega) (by omega) (by omega) ⟨by simp, by simp⟩
  exact this
end Go.Vm
namespace Go.Sx
open Go
end Go.Sx
namespace Go.Vm
open Go Go.Sx
set_option linter.unusedSimpArgs false
set_option linter.unusedVariables false
section
variable {o a b : List Str} {Q : Part → Prop}
theorem zi4 {out : List Part} {p : Part} (h3 : ∀ q p : Part, Q q → Q p → q.Clash = false → p.Clash = false → Q ⟨q.Clash, q.Lines ++ p.Lines, q.Old, q.One, q.Two⟩) (h : ∀ q ∈ out, Q q) (hp : Q p) : ∀ q ∈ zi1 out p, Q q := by
  have happ : ∀ q ∈ out ++ [p], Q q := fun q hq => by
    rcases List.mem_append.1 hq with h1 | h1
    · exact h q h1
    · rw [List.mem_singleton] at h1; rw [h1]; exact hp
  unfold zi1
  cases (!p.Clash && p.Lines.length == 0) with
  | true => exact h
  | false =>
    rw [cond_false]
    split
    · rename_i q hq
      cases hc : (!p.Clash && !q.Clash) with
      | false => exact happ
      | true =>
        simp only [Bool.and_eq_true, Bool.not_eq_true'] at hc
        rw [cond_true]
        intro r hr
        rcases List.mem_or_eq_of_mem_set hr with h1 | h1
        · exact h r h1
        · rw [h1]; exact h3 q p (h q (List.mem_of_getElem? hq)) hp hc.2 hc.1
    · exact happ
theorem zfy (h1 : ∀ l h l' h' l'' h'', Q (zee (zcS o l h) (zcS a l' h') (zcS b l'' h''))) (h2 : ∀ s ∈ o, Q (lnP [s]))
    (h3 : ∀ q p : Part, Q q → Q p → q.Clash = false → p.Clash = false → Q ⟨q.Clash, q.Lines ++ p.Lines, q.Old, q.One, q.Two⟩) : ∀ (ma mb : List Int) (i io ia ib : Int) (out : List Part), (∀ q ∈ out, Q q) → ∀ q ∈ zbN o a b i ma mb io ia ib out, Q q
  | [], mb, i, io, ia, ib, out, h => by rw [zbN.eq_def]; exact h
  | x :: ma, [], i, io, ia, ib, out, h => by rw [zbN.eq_def]; exact h
  | x :: ma, y :: mb, i, io, ia, ib, out, h => by
    rw [zbN]
    cases (decide (x < 0) || decide (y < 0)) with
    | true => exact zfy h1 h2 h3 ma mb _ _ _ _ out h
    | false =>
      refine zfy h1 h2 h3 ma mb _ _ _ _ _ ?_
      have hp := zi4 h3 h (h1 io i ia x ib y)
      unfold zeR
      split
      · rename_i s hs
        exact zi4 h3 hp (h2 s (List.mem_of_getElem? hs))
      · exact hp
theorem zjD (h1 : ∀ l h l' h' l'' h'', Q (zee (zcS o l h) (zcS a l' h') (zcS b l'' h''))) (h2 : ∀ s ∈ o, Q (lnP [s]))
    (h3 : ∀ q p : Part, Q q → Q p → q.Clash = false → p.Clash = false → Q ⟨q.Clash, q.Lines ++ p.Lines, q.Old, q.One, q.Two⟩) : ∀ q ∈ zbq o a b, Q q :=
  zfy h1 h2 h3 _ _ _ _ _ _ [] (by simp)
theorem zfe {α : Type} {xs : List α} {l h : Int} {x : α} (hx : x ∈ zcS xs l h) : x ∈ xs := List.mem_of_mem_take (List.mem_of_mem_drop hx)
theorem zhF {P : Str → Prop} (ho : ∀ s ∈ o, P s) (ha : ∀ s ∈ a, P s) (hb : ∀ s ∈ b, P s) : ∀ q ∈ zbq o a b, (∀ s ∈ q.Lines, P s) ∧ (∀ s ∈ q.Old, P s) ∧ (∀ s ∈ q.One, P s) ∧ (∀ s ∈ q.Two, P s) ∧ q.Old.length ≤ o.length ∧ q.One.length ≤ a.length ∧ q.Two.length ≤ b.length := by
  refine zjD (fun l h l' h' l'' h'' => ?_) (fun s hs => ?_) (fun q p hq hp _ _ => ?_)
  · have c1 := zdl o l h
    have c2 := zdl a l' h'
    have c3 := zdl b l'' h''
    unfold zee lnP
    cases (zcS a l' h' == zcS o l h || zcS a l' h' == zcS b l'' h'') with
    | true => exact ⟨fun s hs => hb s (zfe hs), by simp, by simp, by simp, by simp, by simp, by simp⟩
    | false =>
      rw [cond_false]
      cases (zcS b l'' h'' == zcS o l h) with
      | true => exact ⟨fun s hs => ha s (zfe hs), by simp, by simp, by simp, by simp, by simp, by simp⟩
      | false => exact ⟨by simp, fun s hs => ho s (zfe hs), fun s hs => ha s (zfe hs), fun s hs => hb s (zfe hs), c1, c2, c3⟩
  · exact ⟨by simpa [lnP] using ho s hs, by simp [lnP], by simp [lnP], by simp [lnP], by simp [lnP], by simp [lnP], by simp [lnP]⟩
  · exact ⟨fun s hs => (List.mem_append.1 hs).elim (hq.1 s) (hp.1 s), hq.2⟩
theorem zjE (ho : o.length ≤ 1000) (ha : a.length ≤ 1000) (hb : b.length ≤ 1000) : PB (2 * (o.length + 1)) (zbq o a b) := by
  have := zfL (o := o) ha hb (mt2 o a ++ [(a.length : Int)]) (mt2 o b ++ [(b.length : Int)]) 0 0 0 0 0 [] ⟨by simp, by simp⟩
  rw [(zgJ o a).2] at this
  exact this.mono (by omega)
end
section
variable {xs : List Memo} {o a b : List Str}
def okT (t : List Str) : List Str × Bool := bif zao t then (t, true) else ([], false)
def zpL (i : Nat) (s : List Str) : Prop := s.length ≤ 22000 * i ∧ ∀ x ∈ s, zdk x = true
theorem zc9 {s : List Str} (h : s.length ≤ 1000000) (hl : ∀ x ∈ s, zdk x = true) : Bk.fit s := ⟨by unfold maxi; omega, fun x hx => by have := zg2 (hl x hx); show x.length ≤ maxi; unfold maxi; omega⟩
theorem apT {s t : List Str} (h : s.length ≤ 1000000) (h' : t.length ≤ 1000000) : apM s t = some (s ++ t) := zgQ (by simp [lim]; omega)
theorem zi5 (hto : zao o = true) (hta : zao a = true) (htb : zao b = true) : (zbq o a b).length ≤ 22 ∧ ∀ p ∈ zbq o a b, p.Lines.length ≤ 22000 ∧ (∀ x ∈ p.Lines, zdk x = true) ∧ zao p.Old = true ∧ zao p.One = true ∧ zao p.Two = true := by
  have lo := zaj hto
  have la := zaj hta
  have lb := zaj htb
  have hP := zjE (o := o) (a := a) (b := b) (by omega) (by omega) (by omega)
  refine ⟨Nat.le_trans hP.1 (by omega), fun p hp => ?_⟩
  obtain ⟨h1, h2, h3, h4, h5, h6, h7⟩ := zhF (P := fun s => zdk s = true) (zaO hto) (zaO hta) (zaO htb) p hp
  have hl := hP.2 p hp
  have mk : ∀ t : List Str, t.length ≤ 10 → (∀ s ∈ t, zdk s = true) → zao t = true := fun t h1 h2 => by
    unfold zao
    rw [decide_eq_false (by omega)]
    simp only [Bool.not_false, Bool.true_and, List.all_eq_true]
    exact h2
  exact ⟨by omega, h1, mk _ (by omega) h2, mk _ (by omega) h3, mk _ (by omega) h4⟩
end
def LB (n : Nat) (t : List Str) : Prop := t.length ≤ n ∧ ∀ s ∈ t, s.length ≤ 100
theorem LB.fit {n : Nat} {t : List Str} (h : LB n t) (hn : n ≤ 1000000) : Bk.fit t := ⟨by have := h.1; unfold maxi; omega, fun s hs => by have := h.2 s hs; show s.length ≤ maxi; unfold maxi; omega⟩
theorem LB.mono {n m : Nat} {t : List Str} (h : LB n t) (hm : n ≤ m) : LB m t := ⟨Nat.le_trans h.1 hm, h.2⟩
theorem zga {α : Type} {f : α → Nat} {c : Nat} : ∀ {t : List α}, (∀ s ∈ t, f s ≤ c) → zbs f t ≤ c * t.length
  | [], _ => by simp [zbs]
  | x :: t, h => by
    have h1 := h x (by simp)
    have h2 := zga (t := t) (fun s hs => h s (by simp [hs]))
    simp only [zbs, List.length_cons, Nat.mul_add, Nat.mul_one]
    omega
theorem LB.bulk {n : Nat} {t : List Str} (h : LB n t) : Bk.bulk t ≤ 101 * n := by
  have h1 : zbs Bk.bulk t ≤ 100 * t.length := zga (f := fun s : Str => s.length) (c := 100) (fun s hs => h.2 s hs)
  have := h.1
  rw [zra]
  omega
section
variable {r : l30Rd} {p : Int}
theorem zkb (h : zeo r p) (hp : p ≤ 1099511627776) {l : List Str} (h0 : 0 < l.length) (hl : l.length ≤ 1000) : ∃ s, za6 r l = some (s, r.p + 1) ∧ s ∈ l := by
  obtain ⟨k, hk, k0, k1⟩ := zfd (n := (l.length : Int)) h hp (by omega) (by omega)
  obtain ⟨s, hs⟩ := zfK k0 k1
  unfold za6
  rw [hk, Option.bind_some, hs, Option.bind_some]
  exact ⟨s, rfl, List.mem_of_getElem? (zgC hs).2.1⟩
theorem zlC (h : zeo r p) (hp : p ≤ 1099511627776) {l : List Int} (h0 : 0 < l.length) (hl : l.length ≤ 1000) : ∃ s, zbR r l = some (s, r.p + 1) ∧ s ∈ l := by
  obtain ⟨k, hk, k0, k1⟩ := zfd (n := (l.length : Int)) h hp (by omega) (by omega)
  obtain ⟨s, hs⟩ := zfK k0 k1
  unfold zbR
  rw [hk, Option.bind_some, hs, Option.bind_some]
  exact ⟨s, rfl, List.mem_of_getElem? (zgC hs).2.1⟩
theorem zn0 (h : zeo r p) (hp : p ≤ 1099511627776) : ∃ s, zcZ r = some (s, r.p + 1) ∧ s.length ≤ 12 := by
  unfold zcZ
  obtain ⟨s, hs, hm⟩ := zkb h hp (l := ([([97] : Str), ([98] : Str), ([99] : Str), ([100] : Str), ([] : Str), ([120, 32, 121] : Str), ([115, 101, 101, 32, 97] : Str), ([115, 101, 101, 32, 100, 47, 101] : Str), ([101, 110, 100] : Str)] : List Str)) (by simp) (by simp)
  rw [hs, Option.bind_some]
  refine ⟨s, rfl, ?_⟩
  simp only [List.mem_cons, List.not_mem_nil, or_false] at hm
  rcases hm with rfl | rfl | rfl | rfl | rfl | rfl | rfl | rfl | rfl <;> simp
theorem on1 (h : zeo r p) {q : Int} (hq : p + 1 ≤ q) : zeo ⟨r.b, r.p + 1⟩ q := h.on 1 (by omega) (by have := h.2.2; omega)
theorem zkI {x0 : l30Rd} : ∀ (m : Nat) (out : List Str) (n q p : Int), 0 ≤ n → n < m → n ≤ 100 → LB 100 out → zeo ⟨x0.b, q⟩ p → p + n ≤ 1099511627776 → out.length + n ≤ 100 →
    ∃ out' q', zcG x0 (fun y15 y18 y19 => some (y15, y19)) m out n q = some (out', q') ∧ LB 100 out' ∧ (out'.length : Int) = out.length + n ∧ zeo ⟨x0.b, q'⟩ (p + n)
  | 0, out, n, q, p, h0, hm, _, _, _, _, _ => by omega
  | m + 1, out, n, q, p, h0, hm, hn, hf, hr, hp, hl => by
    simp only [zcG]
    by_cases hn0 : 0 < n
    · obtain ⟨s, hs, hs2⟩ := zn0 hr (by omega)
      have hs' : zcZ ⟨x0.b, q⟩ = some (s, q + 1) := hs
      rw [decide_eq_true hn0, cond_true, hs', Option.bind_some, ap1 (show out.length ≤ 1048576 by omega), Option.bind_some, zar (by omega) (by omega)]
      have hf' : LB 100 (out ++ [s]) := ⟨by simp; omega, fun x hx => by
        rcases List.mem_append.1 hx with h1 | h1
        · exact hf.2 x h1
        · rw [List.mem_singleton] at h1; rw [h1]; omega⟩
      obtain ⟨o', q', e, f', l', r'⟩ := zkI (x0 := x0) m (out ++ [s]) (n - 1) (q + 1) (p + 1) (by omega) (by omega) (by omega) hf' (on1 hr (by omega)) (by omega) (by simp; omega)
      exact ⟨o', q', e, f', by rw [l']; simp; omega, by rw [show p + n = p + 1 + (n - 1) by omega]; exact r'⟩
    · have hz : n = 0 := by omega
      subst hz
      rw [decide_eq_false hn0, cond_false]
      exact ⟨out, q, rfl, hf, by omega, by simpa using hr⟩
theorem zn1 (h : zeo r p) (hp : p ≤ 1000000000) : ∃ t q, zdW r = some (t, q) ∧ LB 8 t ∧ zeo ⟨r.b, q⟩ (p + 10) := by
  unfold zdW
  obtain ⟨n, hn, hm⟩ := zlC h (by omega) (l := [0, 1, 3, 5, 8]) (by simp) (by simp)
  have hn8 : 0 ≤ n ∧ n ≤ 8 := by
    simp only [List.mem_cons, List.not_mem_nil, or_false] at hm
    omega
  rw [hn, Option.bind_some]
  simp only [jn]
  obtain ⟨t, q, e, f, l, ro⟩ := zkI (x0 := r) ((n - 0).toNat + 1) [] n (r.p + 1) (p + 1) hn8.1 (by omega) (by omega) ⟨by simp, by simp⟩ (on1 h (by omega)) (by omega) (by simp; omega)
  refine ⟨t, q, e, ⟨by simp at l; omega, f.2⟩, ro.1, ro.2.1, ?_⟩
  have := ro.2.2
  omega
end
section
variable {o a b : List Str} {xs : List Memo}
def zmf (l : List Part) : List Part := l.filter (·.Clash)
end
open Go Go.Sx Go.Proofs
theorem zbf (a b : Str) : Op.bytesLess a b = decide (a < b) := bytesLess_eq a b
theorem zkJ (a b : Str) : (decide (a ≤ b) || decide (b ≤ a)) = true := by
  rcases List.le_total a b with h | h <;> simp [h]
theorem zkK (a b c : Str) : decide (a ≤ b) = true → decide (b ≤ c) = true → decide (a ≤ c) = true := by
  simp only [decide_eq_true_eq]
  exact List.le_trans
theorem zas (a : Str) : ¬ a < a := List.lt_irrefl a
theorem zbh {a b c : Str} : a < b → b < c → a < c := List.lt_trans
theorem zcC {a b : Str} (h : a ≤ b) (hn : a ≠ b) : a < b := by
  rcases Decidable.em (a < b) with h1 | h1
  · exact h1
  · exact absurd (List.le_antisymm h (List.not_lt.1 h1)) hn
theorem zhl {a b : Str} : ¬ a < b ↔ b ≤ a := List.not_lt
def Asd (xs : List Str) : Prop := xs.Pairwise (· < ·)
theorem Asd.ext : ∀ {xs ys : List Str}, Asd xs → Asd ys → (∀ a, a ∈ xs ↔ a ∈ ys) → xs = ys
  | [], [], _, _, _ => rfl
  | [], y :: ys, _, _, h => by have := (h y).2 (by simp); simp at this
  | x :: xs, [], _, _, h => by have := (h x).1 (by simp); simp at this
  | x :: xs, y :: ys, hx, hy, h => by
    have hx' := List.pairwise_cons.1 hx
    have hy' := List.pairwise_cons.1 hy
    have e : x = y := by
      rcases List.mem_cons.1 ((h x).1 (by simp)) with e | hm
      · exact e
      · rcases List.mem_cons.1 ((h y).2 (by simp)) with e | hm2
        · exact e.symm
        · exact absurd (zbh (hy'.1 x hm) (hx'.1 y hm2)) (zas y)
    subst e
    have ht : ∀ a, a ∈ xs ↔ a ∈ ys := fun a => by
      constructor
      · intro ha
        rcases List.mem_cons.1 ((h a).1 (List.mem_cons_of_mem _ ha)) with e | hm
        · exact absurd (by rw [e] at ha; exact hx'.1 x ha) (zas x)
        · exact hm
      · intro ha
        rcases List.mem_cons.1 ((h a).2 (List.mem_cons_of_mem _ ha)) with e | hm
        · exact absurd (by rw [e] at ha; exact hy'.1 x ha) (zas x)
        · exact hm
    rw [Asd.ext hx'.2 hy'.2 ht]
theorem zmg (l : List Str) : (zgB l).Pairwise (· ≤ ·) := by
  have := List.pairwise_mergeSort (le := fun x y : Str => decide (x ≤ y)) zkK zkJ l
  exact this.imp (by simp)
theorem zkh {l : List Str} {a : Str} : a ∈ zgB l ↔ a ∈ l := List.mem_mergeSort
theorem zhG : ∀ (l : List Str) (p : Option Str) (a : Str), a ∈ zdV p l ∨ some a = p ↔ a ∈ l ∨ some a = p
  | [], p, a => by simp [zdV]
  | x :: l, p, a => by
    have ih := zhG l (some x) a
    unfold zdV
    by_cases hp : p = some x
    · rw [if_pos hp, hp]
      rw [ih]
      simp only [List.mem_cons, Option.some.injEq]
      constructor
      · rintro (h | h)
        · exact .inl (.inr h)
        · exact .inr h
      · rintro ((h | h) | h)
        · exact .inr h
        · exact .inl h
        · exact .inr h
    · rw [if_neg hp]
      simp only [List.mem_cons, Option.some.injEq] at ih ⊢
      constructor
      · rintro ((h | h) | h)
        · exact .inl (.inl h)
        · rcases ih.1 (.inl h) with h2 | h2
          · exact .inl (.inr h2)
          · exact .inl (.inl h2)
        · exact .inr h
      · rintro ((h | h) | h)
        · exact .inl (.inl h)
        · rcases ih.2 (.inl h) with h2 | h2
          · exact .inl (.inr h2)
          · exact .inl (.inl h2)
        · exact .inr h
theorem zif {l : List Str} {a : Str} : a ∈ zmC l ↔ a ∈ l := by
  have := zhG l none a
  simpa [zmC] using this
theorem zgb : ∀ (l : List Str) (p : Option Str), l.Pairwise (· ≤ ·) → (∀ q, p = some q → ∀ a ∈ l, q ≤ a) → Asd (zdV p l) ∧ ∀ q, p = some q → ∀ a ∈ zdV p l, q < a
  | [], p, _, _ => by simp [zdV, Asd]
  | x :: l, p, h, hp => by
    have h' := List.pairwise_cons.1 h
    obtain ⟨i1, i2⟩ := zgb l (some x) h'.2 (fun q hq a ha => by cases hq; exact h'.1 a ha)
    unfold zdV
    by_cases hpx : p = some x
    · rw [if_pos hpx]
      exact ⟨i1, fun q hq a ha => by rw [hpx] at hq; exact i2 q hq a ha⟩
    · rw [if_neg hpx]
      refine ⟨List.pairwise_cons.2 ⟨fun a ha => i2 x rfl a ha, i1⟩, fun q hq a ha => ?_⟩
      have hqx : q < x := zcC (hp q hq x (by simp)) (fun e => hpx (by rw [hq, e]))
      rcases List.mem_cons.1 ha with e | e
      · rw [e]; exact hqx
      · exact zbh hqx (i2 x rfl a e)
def zfM (xs : List Str) (s : Str) : List Str := zmC (zgB (xs ++ [s]))
theorem zep (xs : List Str) (s : Str) : Asd (zfM xs s) := (zgb _ none (zmg _) (fun q hq => by cases hq)).1
theorem insS_mem {xs : List Str} {s a : Str} : a ∈ zfM xs s ↔ a ∈ xs ∨ a = s := by
  unfold zfM
  rw [zif, zkh, List.mem_append, List.mem_singleton]
theorem zgp : ∀ (zs : List Str) (p : Option Str), (zdV p zs).length ≤ zs.length
  | [], p => by simp [zdV]
  | x :: l, p => by
    have := zgp l (some x)
    unfold zdV
    split <;> simp <;> omega
theorem zfG (xs : List Str) (s : Str) : (zfM xs s).length ≤ xs.length + 1 := by
  have := zgp (zgB (xs ++ [s])) none
  unfold zfM zmC
  have h2 : (zgB (xs ++ [s])).length = (xs ++ [s]).length := List.length_mergeSort _
  rw [h2] at this
  simpa using this
def zg4 (c : UInt8) : Bool := (decide (97 ≤ (c.toNat : Int)) && decide ((c.toNat : Int) ≤ 122)) || (decide (48 ≤ (c.toNat : Int)) && decide ((c.toNat : Int) ≤ 57))
def zaM (s : Str) : Bool := (decide (1 ≤ (s.length : Int)) && decide ((s.length : Int) ≤ 6)) && s.all zg4
theorem ziF (c : UInt8) : zdv c = some (zg4 c) := by
  unfold zdv zg4
  simp only [jn]
  cases decide (97 ≤ (c.toNat : Int)) <;> cases decide ((c.toNat : Int) ≤ 122) <;> cases decide (48 ≤ (c.toNat : Int)) <;> cases decide ((c.toNat : Int) ≤ 57) <;> rfl
theorem zdm (a b c : Int) : zce a b c = some (decide (b ≤ a) && decide (a ≤ c)) := by
  unfold zce
  simp only [jn]
  cases decide (b ≤ a) <;> rfl
theorem zeZ (a b c : Int) : zdq a b c = some (decide (b ≤ a) && decide (a ≤ c)) := by
  unfold zdq
  simp only [jn]
  cases decide (b ≤ a) <;> rfl
theorem zgq {s : Str} (h : s.length ≤ maxi) : zdd s = some (zaM s) := by
  unfold zdd zaM
  simp only [jn, zaA, zdm, Option.bind_some]
  cases (decide (1 ≤ (s.length : Int)) && decide ((s.length : Int) ≤ 6))
  case false => rfl
  simp only [Bool.not_true, cond_false, Bool.true_and]
  rw [za5 (α := UInt8) (xs := s) (p := zg4) (r0 := some false) (Z := some true) (f := fun m i => zb1 s (fun _ _ => some true) m false i) (fun m i x hx => by
    simp only [zb1, jn, zat hx, zgS hx, cond_true, Option.bind_some, zag (zaP hx) h, ziF]
    cases zg4 x <;> rfl) (fun m => by simp only [zb1, zai, cond_false]) (by omega)]
  cases s.all zg4 <;> rfl
theorem zpM (a b : Int) : decide (a < b) = !decide (b ≤ a) := by
  by_cases h : a < b
  · rw [decide_eq_true h, decide_eq_false (by omega)]; rfl
  · rw [decide_eq_false h, decide_eq_true (by omega)]; rfl
theorem zcb {s : Str} (h : s.length ≤ maxi) : zbt s = some (zaM s) := by
  unfold zbt zaM
  simp only [jn, zaA, zeZ, Option.bind_some]
  rw [za5 (α := UInt8) (xs := s) (p := zg4) (r0 := some false) (Z := some (decide (1 ≤ (s.length : Int)) && decide ((s.length : Int) ≤ 6))) (f := fun m i => zbS s (fun _ _ => some (decide (1 ≤ (s.length : Int)) && decide ((s.length : Int) ≤ 6))) m false i) (fun m i x hx => by
    simp only [zbS, jn, zat hx, zgS hx, cond_true, Option.bind_some, zag (zaP hx) h, zpM, zg4]
    cases decide (97 ≤ (x.toNat : Int)) <;> cases decide ((x.toNat : Int) ≤ 122) <;> cases decide (48 ≤ (x.toNat : Int)) <;> cases decide ((x.toNat : Int) ≤ 57) <;> rfl) (fun m => by simp only [zbS, zai, cond_false]) (by omega)]
  cases s.all zg4 <;> cases (decide (1 ≤ (s.length : Int)) && decide ((s.length : Int) ≤ 6)) <;> rfl
def ahd (s : Str) : List Str → Nat
  | [] => 0
  | x :: xs => bif Op.bytesLess x s then ahd s xs + 1 else 0
theorem zm1 (s : Str) : ∀ xs, ahd s xs ≤ xs.length
  | [] => Nat.le_refl _
  | x :: xs => by
    have := zm1 s xs
    unfold ahd
    cases Op.bytesLess x s
    · simp
    · simp only [cond_true, List.length_cons]; omega
theorem zi6 (s : Str) : ∀ (xs : List Str) x, x ∈ xs.take (ahd s xs) → x < s
  | [], x, h => by simp at h
  | y :: xs, x, h => by
    unfold ahd at h
    cases hy : Op.bytesLess y s with
    | false => rw [hy] at h; simp at h
    | true =>
      rw [hy, cond_true, List.take_succ_cons] at h
      rcases List.mem_cons.1 h with e | e
      · rw [e]; rw [zbf] at hy; simpa using hy
      · exact zi6 s xs x e
theorem zm2 (s : Str) : ∀ (xs : List Str) x, xs[ahd s xs]? = some x → s ≤ x
  | [], x, h => by simp at h
  | y :: xs, x, h => by
    unfold ahd at h
    cases hy : Op.bytesLess y s with
    | false =>
      rw [hy, cond_false] at h
      have e : y = x := by simpa using h
      rw [← e]
      rw [zbf] at hy
      exact zhl.1 (by simpa using hy)
    | true =>
      rw [hy, cond_true] at h
      exact zm2 s xs x (by simpa using h)
theorem zpN {xs : List Str} {s : Str} (hl : xs.length ≤ 1000000) {K : Int → Option (List Str)} : ∀ (n i m : Nat), i + n = xs.length → n < m → (∀ j, j < i → ∃ x, xs[j]? = some x ∧ x < s) → zcA xs s K m (i : Int) = K ((i + ahd s (xs.drop i) : Nat) : Int)
  | n, i, 0, _, hm, _ => by omega
  | 0, i, m + 1, hi, _, _ => by
    simp only [zcA, jn]
    rw [decide_eq_false (by omega), cond_false, cond_false, List.drop_eq_nil_of_le (by omega)]
    rfl
  | n + 1, i, m + 1, hi, hm, hall => by
    have hlt : i < xs.length := by omega
    have hx : xs[i]? = some xs[i] := List.getElem?_eq_getElem hlt
    simp only [zcA, jn]
    rw [decide_eq_true (by omega), cond_true, zaf hx, Option.bind_some, List.drop_eq_getElem_cons hlt]
    unfold ahd
    cases hb : Op.bytesLess xs[i] s with
    | false => rw [cond_false, cond_false]; rfl
    | true =>
      rw [cond_true, cond_true, zag hlt (by unfold maxi; omega)]
      rw [zpN hl n (i + 1) m (by omega) (by omega) (fun j hj => by
        rcases Nat.lt_or_ge j i with h1 | h1
        · exact hall j h1
        · have : j = i := by omega
          subst this
          exact ⟨_, hx, by rw [zbf] at hb; simpa using hb⟩)]
      congr 2
      omega
theorem zmh {xs : List Str} {s : Str} (hl : xs.length ≤ 1000000) (ha : Asd xs) : zdj xs s = some (zfM xs s) := by
  unfold zdj
  simp only [jn]
  have h1 := zpN (s := s) hl (K := fun y1 => bif decide (y1 < (xs.length : Int)) then (gi xs y1).bind fun u52 => bif u52 == s then some xs else (slM xs 0 y1).bind fun q19 => (apM [] q19).bind fun q24 => (apM q24 [s]).bind fun q31 => (slM xs y1 (xs.length : Int)).bind fun q36 => (apM q31 q36).bind fun q41 => some q41
      else bif false then some xs else (slM xs 0 y1).bind fun q19 => (apM [] q19).bind fun q24 => (apM q24 [s]).bind fun q31 => (slM xs y1 (xs.length : Int)).bind fun q36 => (apM q31 q36).bind fun q41 => some q41) xs.length 0 (xs.length + 1) (by omega) (by omega) (fun j hj => by omega)
  have hk := zm1 s xs
  simp only [Nat.zero_add, List.drop_zero] at h1
  refine h1.trans ?_
  -- the list with s in its place
  have hput : (slM xs 0 ((ahd s xs : Nat) : Int)).bind (fun q19 => (apM [] q19).bind fun q24 => (apM q24 [s]).bind fun q31 => (slM xs ((ahd s xs : Nat) : Int) (xs.length : Int)).bind fun q36 => (apM q31 q36).bind fun q41 => some q41) = some (xs.take (ahd s xs) ++ [s] ++ xs.drop (ahd s xs)) := by
    have hlt : (xs.take (ahd s xs)).length ≤ xs.length := by simp; omega
    rw [zfI hk, Option.bind_some, apN (by omega), Option.bind_some, ap1 (by omega), Option.bind_some, zeY hk, Option.bind_some, zgQ (by simp [lim]; omega), Option.bind_some]
  have hmem : ∀ a, a ∈ xs.take (ahd s xs) ++ [s] ++ xs.drop (ahd s xs) ↔ a ∈ xs ∨ a = s := fun a => by
    have : a ∈ xs ↔ a ∈ xs.take (ahd s xs) ∨ a ∈ xs.drop (ahd s xs) := by rw [← List.mem_append, List.take_append_drop]
    rw [this]
    simp only [List.mem_append, List.mem_singleton]
    constructor
    · rintro ((h | h) | h)
      · exact .inl (.inl h)
      · exact .inr h
      · exact .inl (.inr h)
    · rintro ((h | h) | h)
      · exact .inl (.inl h)
      · exact .inr h
      · exact .inl (.inr h)
  have hfin : (∀ x ∈ xs.drop (ahd s xs), s < x) → some (xs.take (ahd s xs) ++ [s] ++ xs.drop (ahd s xs)) = some (zfM xs s) := by
    intro hd
    congr 1
    refine Asd.ext ?_ (zep _ _) (fun a => by rw [hmem, insS_mem])
    have ha' := ha
    rw [← List.take_append_drop (ahd s xs) xs] at ha'
    obtain ⟨p1, p2, p3⟩ := List.pairwise_append.1 ha'
    refine List.pairwise_append.2 ⟨List.pairwise_append.2 ⟨p1, List.pairwise_singleton _ _, fun a h b hb => ?_⟩, p2, fun a h b hb => ?_⟩
    · rw [List.mem_singleton] at hb; rw [hb]; exact zi6 s xs a h
    · rcases List.mem_append.1 h with h2 | h2
      · exact p3 a h2 b hb
      · rw [List.mem_singleton] at h2; rw [h2]; exact hd b hb
  by_cases hlt : ahd s xs < xs.length
  · have hx : xs[ahd s xs]? = some xs[ahd s xs] := List.getElem?_eq_getElem hlt
    have hge := zm2 s xs _ hx
    rw [decide_eq_true (by omega), cond_true, zaf hx, Option.bind_some]
    cases he : xs[ahd s xs] == s with
    | true =>
      have e : xs[ahd s xs] = s := by simpa using he
      rw [cond_true]
      congr 1
      exact Asd.ext ha (zep _ _) (fun a => by
        rw [insS_mem]
        constructor
        · exact .inl
        · rintro (h | h)
          · exact h
          · rw [h, ← e]; exact List.getElem_mem hlt)
    | false =>
      have e : s ≠ xs[ahd s xs] := fun e => by rw [← e] at he; simp at he
      rw [cond_false, hput]
      refine hfin (fun x hx2 => ?_)
      rw [List.drop_eq_getElem_cons hlt] at hx2
      have hs1 : s < xs[ahd s xs] := zcC hge e
      rcases List.mem_cons.1 hx2 with h2 | h2
      · rw [h2]; exact hs1
      · have hp : Asd (xs.drop (ahd s xs)) := List.Pairwise.sublist (List.drop_sublist _ _) ha
        rw [List.drop_eq_getElem_cons hlt] at hp
        exact zbh hs1 ((List.pairwise_cons.1 hp).1 x h2)
  · rw [decide_eq_false (by omega), cond_false, cond_false, hput]
    refine hfin (fun x hx2 => ?_)
    rw [List.drop_eq_nil_of_le (by omega)] at hx2
    simp at hx2
def RB (n : Nat) (v : Review) : Prop := v.Branch.length ≤ 4 ∧ v.Into.length ≤ 4 ∧ v.By.length ≤ 4 ∧ LB n v.Yes
theorem RB.fit {n : Nat} {v : Review} (h : RB n v) (hn : n ≤ 1000) : Bk.fit v :=
  ⟨by have := h.1; show v.Branch.length ≤ maxi; unfold maxi; omega, by have := h.2.1; show v.Into.length ≤ maxi; unfold maxi; omega, by have := h.2.2.1; show v.By.length ≤ maxi; unfold maxi; omega, h.2.2.2.fit (by omega)⟩
def curS (c : UInt8) : Str → Str → List Str
  | w, [] => [w]
  | w, x :: r => bif x == c then w :: curS c [] r else curS c (w ++ [x]) r
def zdU (c : UInt8) : Nat → Str → Str → List Str
  | _, w, [] => [w]
  | 0, w, x :: r => [w ++ x :: r]
  | n + 1, w, x :: r => bif x == c then w :: zdU c n [] r else zdU c (n + 1) (w ++ [x]) r
theorem zi7 (c : UInt8) : ∀ (r w : Str), 1 ≤ (curS c w r).length
  | [], w => by simp [curS]
  | x :: r, w => by
    unfold curS
    cases x == c
    · exact zi7 c r _
    · simp
theorem zdG (c : UInt8) (w r : Str) : zdU c 0 w r = [w ++ r] := by
  cases r <;> simp [zdU]
theorem zdH (c : UInt8) : ∀ (r : Str) (n : Nat) (w : Str), (curS c w r).length ≤ n + 1 → zdU c n w r = curS c w r
  | [], n, w, h => by cases n <;> simp [zdU, curS]
  | x :: r, 0, w, h => by
    unfold curS at h ⊢
    cases hx : x == c with
    | true =>
      rw [hx, cond_true] at h
      have := zi7 c r []
      rw [List.length_cons] at h
      omega
    | false =>
      rw [hx, cond_false] at h
      have ih := zdH c r 0 (w ++ [x]) h
      rw [cond_false, ← ih, zdG, zdG]
      simp
  | x :: r, n + 1, w, h => by
    unfold curS at h ⊢
    unfold zdU
    cases hx : x == c with
    | true =>
      rw [hx, cond_true, List.length_cons] at h
      rw [cond_true, cond_true, zdH c r n [] (by omega)]
    | false =>
      rw [hx, cond_false] at h
      rw [cond_false, cond_false, zdH c r (n + 1) _ h]
theorem zff (c : UInt8) : ∀ (r : Str) (n : Nat) (w : Str), n + 1 ≤ (curS c w r).length → (zdU c n w r).length = n + 1
  | [], n, w, h => by
    simp [curS] at h
    subst h
    simp [zdU]
  | x :: r, 0, w, h => by simp [zdU]
  | x :: r, n + 1, w, h => by
    unfold curS at h
    unfold zdU
    cases hx : x == c with
    | true =>
      rw [hx, cond_true, List.length_cons] at h
      rw [cond_true, List.length_cons, zff c r n [] (by omega)]
    | false =>
      rw [hx, cond_false] at h
      rw [cond_false, zff c r (n + 1) _ h]
theorem zhH {c : UInt8} {w : Str} (h : c ∉ w) : Lib.index w [c] = -1 := Lib.index_none fun j hj => by
  cases ho : Lib.occAt w [c] j with
  | false => rfl
  | true => exact absurd (List.mem_of_getElem? (Lib.occAt_head rfl ho)) h
theorem zi8 {c : UInt8} {w r : Str} (h : c ∉ w) : Lib.index (w ++ c :: r) [c] = ((w.length : Nat) : Int) := Lib.index_first (by simp) (by simp [Lib.occAt, List.isPrefixOf]) fun j hj => by
  cases ho : Lib.occAt (w ++ c :: r) [c] j with
  | false => rfl
  | true =>
    have := Lib.occAt_head rfl ho
    rw [List.getElem?_append_left hj] at this
    exact absurd (List.mem_of_getElem? this) h
theorem zgr (c : UInt8) : ∀ (r w : Str), c ∉ w → Lib.split (w ++ r) [c] = curS c w r
  | [], w, h => by
    unfold Lib.split curS
    rw [List.append_nil, Lib.count_miss (zhH h)]
    rfl
  | x :: r, w, h => by
    unfold curS
    cases hx : x == c with
    | true =>
      have e : x = c := by simpa using hx
      subst e
      have hi := zi8 (r := r) h
      rw [cond_true]
      have ih := zgr x r [] (by simp)
      unfold Lib.split at ih ⊢
      have hd : (w ++ x :: r).drop (w.length + 1) = r := by
        rw [show w ++ x :: r = (w ++ [x]) ++ r by simp, List.drop_left' (by simp)]
      have hc : Lib.count (w ++ x :: r) [x] = Lib.count r [x] + 1 := by
        rw [Lib.count_hit (by simp) hi]
        show 1 + Lib.count ((w ++ x :: r).drop (w.length + 1)) [x] = _
        rw [hd]
        omega
      rw [hc]
      unfold Lib.splitK
      rw [if_neg (by rw [hi]; simp), hi]
      have e1 : (w ++ x :: r).take (((w.length : Nat) : Int).toNat + 0) = w := by simp
      have e2 : (w ++ x :: r).drop (((w.length : Nat) : Int).toNat + [x].length) = r := hd
      rw [e1, e2]
      simp only [List.nil_append] at ih
      rw [ih]
    | false =>
      have hne : x ≠ c := by simpa using hx
      rw [cond_false, show w ++ x :: r = (w ++ [x]) ++ r by simp]
      exact zgr c r (w ++ [x]) (by
        rw [List.mem_append, List.mem_singleton]
        rintro (h1 | h1)
        · exact h h1
        · exact hne h1.symm)
theorem zmi (c : UInt8) (s : Str) : Lib.split s [c] = curS c [] s := zgr c s [] (by simp)
theorem ziG (u c : UInt8) : (((UInt8.toNat u : Nat) : Int) == ((UInt8.toNat c : Nat) : Int)) = (u == c) := by
  have : ∀ b c : Bool, (b = true ↔ c = true) → b = c := by decide
  apply this
  rw [beq_iff_eq, beq_iff_eq, ← UInt8.toNat_inj]
  omega
theorem zkL {s : Str} {c : UInt8} {most : Nat} (hs : s.length ≤ 1048576) (hm : most ≤ 1000) : ∀ (n : Nat) (out : List Str) (from_ i m : Nat), i + n = s.length → n < m → from_ ≤ i → out.length ≤ most →
    zdr s c (most : Int) (fun y3 y6 y7 => (slM s y6 (s.length : Int)).bind fun q38 => (apM y3 [q38]).bind fun q43 => some q43) m out (from_ : Int) (i : Int) = some (out ++ zdU c (most - out.length) ((s.take i).drop from_) (s.drop i))
  | n, out, f, i, 0, _, hm, _, _ => by omega
  | n, out, f, i, m + 1, hi, hn, hf, ho => by
    have hdone : (slM s (f : Int) (s.length : Int)).bind (fun q38 => (apM out [q38]).bind fun q43 => some q43) = some (out ++ [s.drop f]) := by
      rw [zeY (by omega), Option.bind_some, ap1 (by omega), Option.bind_some]
    have hw : (s.take i).drop f ++ s.drop i = s.drop f := by
      rw [← List.drop_append_of_le_length (by simp; omega), List.take_append_drop]
    simp only [zdr, jn]
    by_cases h1 : (i : Int) < (s.length : Int)
    case neg =>
      rw [decide_eq_false h1, cond_false, cond_false, hdone]
      have : s.drop i = [] := List.drop_eq_nil_of_le (by omega)
      rw [this] at hw ⊢
      rw [List.append_nil] at hw
      rw [hw]
      cases most - out.length <;> simp [zdU]
    rw [decide_eq_true h1, cond_true]
    have hlt : i < s.length := by omega
    have hx : s[i]? = some s[i] := List.getElem?_eq_getElem hlt
    by_cases h2 : (out.length : Int) < (most : Int)
    case neg =>
      rw [decide_eq_false h2, cond_false, hdone]
      have : most - out.length = 0 := by omega
      rw [this, zdG, hw]
    obtain ⟨n, rfl⟩ : ∃ k, n = k + 1 := ⟨n - 1, by omega⟩
    obtain ⟨k, hk⟩ : ∃ k, most - out.length = k + 1 := ⟨most - out.length - 1, by omega⟩
    rw [decide_eq_true h2, cond_true, zgS hx, Option.bind_some, ziG, hk, List.drop_eq_getElem_cons hlt]
    unfold zdU
    cases hb : s[i] == c with
    | true =>
      rw [cond_true, cond_true, zh4 (by omega) (by omega) (by omega), Option.bind_some, ap1 (by omega), Option.bind_some, zag hlt (by unfold maxi; omega), zkL hs hm n _ (i + 1) (i + 1) m (by omega) (by omega) (by omega) (by simp; omega)]
      have e1 : most - (out ++ [((s.take ((i : Nat) : Int).toNat)).drop ((f : Nat) : Int).toNat]).length = k := by simp; omega
      have e2 : (s.take (i + 1)).drop (i + 1) = [] := List.drop_eq_nil_of_le (by simp; omega)
      rw [e1, e2]
      simp
    | false =>
      rw [cond_false, cond_false, zag hlt (by unfold maxi; omega), zkL hs hm n _ f (i + 1) m (by omega) (by omega) (by omega) ho, hk]
      have e2 : (s.take (i + 1)).drop f = (s.take i).drop f ++ [s[i]] := by
        rw [List.take_add_one, hx]
        rw [List.drop_append_of_le_length (by simp; omega)]
        rfl
      rw [e2]
theorem zmj {s : Str} {c : UInt8} {most : Nat} (hs : s.length ≤ 1048576) (hm : most ≤ 1000) : ze7 s c (most : Int) = some (zdU c most [] s) := by
  unfold ze7
  simp only [jn]
  have := zkL (c := c) (most := most) hs hm s.length [] 0 0 (s.length + 1) (by omega) (by omega) (Nat.le_refl _) (by simp)
  simpa using this
def za0 (s : Str) : Bool := decide ((curS 47 [] s).length ≤ 3) && (curS 47 [] s).all zaM
theorem zhm (c : UInt8) : ∀ (r w : Str), ∀ p ∈ curS c w r, p.length ≤ w.length + r.length
  | [], w, p, h => by simp [curS] at h; rw [h]; omega
  | x :: r, w, p, h => by
    unfold curS at h
    cases hx : x == c with
    | true =>
      rw [hx, cond_true] at h
      rcases List.mem_cons.1 h with e | e
      · rw [e]; omega
      · have := zhm c r [] p e
        simp at this ⊢
        omega
    | false =>
      rw [hx, cond_false] at h
      have := zhm c r (w ++ [x]) p h
      simp at this ⊢
      omega
theorem zfN (c : UInt8) : ∀ (r w : Str), (curS c w r).length ≤ r.length + 1
  | [], w => by simp [curS]
  | x :: r, w => by
    unfold curS
    cases x == c
    · have := zfN c r (w ++ [x]); simp at this ⊢; omega
    · have := zfN c r []; simp at this ⊢; omega
theorem zdI {s : Str} (h : s.length ≤ 1048576) : zdC s = some (za0 s) := by
  unfold zdC strings_Split za0
  rw [if_pos ⟨by omega, by simp⟩, Option.bind_some, zmi]
  have hl := zfN 47 s []
  by_cases h3 : (3 : Int) < ((curS 47 [] s).length : Int)
  · rw [decide_eq_true h3, cond_true, decide_eq_false (by omega)]; rfl
  rw [decide_eq_false h3, cond_false, decide_eq_true (by omega), Bool.true_and]
  simp only [jn, zaA]
  rw [za5 (α := Str) (xs := curS 47 [] s) (p := zaM) (r0 := some false) (Z := some true) (f := fun m i => zb4 (curS 47 [] s) (fun _ _ => some true) m false i) (fun m i x hx => by
    have hf := zhm 47 s [] x (List.mem_of_getElem? hx)
    simp only [zb4, zat hx, zaf hx, cond_true, Option.bind_some, zag (zaP hx) (show (curS 47 [] s).length ≤ maxi by unfold maxi; omega), zgq (show x.length ≤ maxi by unfold maxi; simp at hf; omega)]
    cases zaM x <;> rfl) (fun m => by simp only [zb4, zai, cond_false]) (by omega)]
  cases (curS 47 [] s).all zaM <;> rfl
theorem zgK (c : UInt8) : ∀ (r : Str) (n : Nat) (w : Str), ∀ p ∈ zdU c n w r, p.length ≤ w.length + r.length
  | [], n, w, p, h => by cases n <;> simp [zdU] at h <;> rw [h] <;> omega
  | x :: r, 0, w, p, h => by simp [zdU] at h; rw [h]; simp
  | x :: r, n + 1, w, p, h => by
    unfold zdU at h
    cases hx : x == c with
    | true =>
      rw [hx, cond_true] at h
      rcases List.mem_cons.1 h with e | e
      · rw [e]; omega
      · have := zgK c r n [] p e
        simp at this ⊢
        omega
    | false =>
      rw [hx, cond_false] at h
      have := zgK c r (n + 1) (w ++ [x]) p h
      simp at this ⊢
      omega
theorem zfg {s : Str} (h : s.length ≤ 1048576) : zcs s = some (za0 s) := by
  unfold zcs za0
  have e47 : (UInt8.ofNatLT 47 (by decide) : UInt8) = 47 := by decide
  have hc := zmj (c := UInt8.ofNatLT 47 (by decide)) (most := 3) h (by omega)
  rw [show (3 : Int) = ((3 : Nat) : Int) from rfl, hc, Option.bind_some, e47]
  simp only [jn, zaA]
  have hlen : (zdU 47 3 [] s).length ≤ maxi := by
    rcases Nat.lt_or_ge (curS 47 [] s).length 4 with h1 | h1
    · rw [zdH 47 s 3 [] (by omega)]; unfold maxi; omega
    · rw [zff 47 s 3 [] h1]; unfold maxi; omega
  rw [za5 (α := Str) (xs := zdU 47 3 [] s) (p := zaM) (r0 := some false) (Z := some (decide (((zdU 47 3 [] s).length : Int) ≤ ((3 : Nat) : Int)))) (f := fun m i => zbT (zdU 47 3 [] s) (fun _ _ => some (decide (((zdU 47 3 [] s).length : Int) ≤ ((3 : Nat) : Int)))) m false i) (fun m i x hx => by
    have hf := zgK 47 s 3 [] x (List.mem_of_getElem? hx)
    simp only [zbT, zat hx, zaf hx, cond_true, Option.bind_some, zag (zaP hx) hlen, zcb (show x.length ≤ maxi by unfold maxi; simp at hf; omega)]
    cases zaM x <;> rfl) (fun m => by simp only [zbT, zai, cond_false]) (by omega)]
  rcases Nat.lt_or_ge (curS 47 [] s).length 4 with h1 | h1
  · rw [zdH 47 s 3 [] (by omega), decide_eq_true (show ((curS 47 [] s).length : Int) ≤ ((3 : Nat) : Int) by omega), decide_eq_true (show (curS 47 [] s).length ≤ 3 by omega)]
    cases (curS 47 [] s).all zaM <;> rfl
  · rw [zff 47 s 3 [] h1, decide_eq_false (show ¬ (curS 47 [] s).length ≤ 3 by omega)]
    cases (zdU 47 3 [] s).all zaM <;> rfl
theorem zi9 (a b : Str) : (Op.bytesLess a b || a == b) = !Op.bytesLess b a := by
  rw [zbf, zbf]
  by_cases h : b < a
  · have h1 : ¬ a < b := fun h2 => zas a (zbh h2 h)
    have h2 : ¬ a = b := fun e => by rw [e] at h; exact zas b h
    simp [h, h1, h2]
  · by_cases e : a = b
    · simp [h, e]
    · have := zcC (zhl.1 h) e
      simp [h, this]
def OB (xs : List Owner) : Prop := xs.length ≤ 1048576 ∧ ∀ x ∈ xs, x.Path.length ≤ 1048576 ∧ x.Who.length ≤ 1048576
theorem OB.of {xs : List Owner} (h : Bk.bulk xs ≤ 1048576) : OB xs := ⟨zd8 h, fun x hx => by
  have h1 : Bk.bulk x ≤ 1048576 := zgR h hx
  have h2 : Bk.bulk x = x.Path.length + x.Who.length := rfl
  omega⟩
theorem OB.at_ {xs : List Owner} (h : OB xs) {i : Nat} {x : Owner} (hx : xs[i]? = some x) : x.Path.length ≤ 1048576 ∧ x.Who.length ≤ 1048576 := h.2 x (List.mem_of_getElem? hx)
def zbe (d p : Str) : Bool := (d ++ [47]).isPrefixOf p
theorem zkM {d p : Str} (hd : d.length ≤ 1048576) (hp : p.length ≤ 1048576) (h1 : za0 d = true) (h2 : za0 p = true) : zcf d p = some (zbe d p) := by
  unfold zcf strings_HasPrefix zbe
  have hs : saM d ([47] : Str) = some (d ++ [47]) := by
    unfold saM
    rw [if_pos]
    simp only [List.length_cons, List.length_nil, lim]
    omega
  simp only [jn, zdI hd, zdI hp, h1, h2, Option.bind_some, cond_true, hs, Lib.hasPrefix]
theorem zgs {c : UInt8} : ∀ {d p : Str}, (d ++ [c]).isPrefixOf p = (p.take d.length == d && p[d.length]? == some c)
  | [], [] => by simp
  | [], x :: p => by
    by_cases e : c = x
    · subst e; simp [List.isPrefixOf]
    · have e1 : (c == x) = false := beq_false_of_ne e
      have e2 : ((some x : Option UInt8) == some c) = false := beq_false_of_ne (fun h => e (Option.some.inj h).symm)
      simp only [List.nil_append, List.isPrefixOf, e1, List.length_nil, List.take_zero, List.getElem?_cons_zero, e2, Bool.false_and, Bool.and_false]
  | y :: d, [] => by simp [List.isPrefixOf]
  | y :: d, x :: p => by
    have ih := zgs (c := c) (d := d) (p := p)
    simp only [List.cons_append, List.isPrefixOf, List.length_cons, List.take_succ_cons, List.getElem?_cons_succ, ih]
    by_cases e : y = x
    · subst e
      simp
    · have e1 : (y == x) = false := beq_false_of_ne e
      have e2 : (x == y) = false := beq_false_of_ne (fun h => e h.symm)
      simp [e1, e2]
theorem ziH {d p : Str} (hp : p.length ≤ 1048576) : zeX d p = some (zbe d p) := by
  unfold zeX zbe
  simp only [jn]
  rw [zgs]
  by_cases hl : (d.length : Int) < (p.length : Int)
  · have hlt : d.length < p.length := by omega
    have hx : p[d.length]? = some p[d.length] := List.getElem?_eq_getElem hlt
    rw [decide_eq_true hl, cond_true, zfI (by omega), Option.bind_some, hx]
    cases p.take d.length == d with
    | false => rfl
    | true =>
      rw [cond_true, zgS hx, Option.bind_some, Bool.true_and]
      congr 1
      have := (show ∀ u : UInt8, (((UInt8.toNat u : Nat) : Int) == (47 : Int)) = (some u == some (47 : UInt8)) from fun u => by
        have hb := ziG u 47
        rw [show (((UInt8.toNat (47 : UInt8) : Nat) : Int)) = 47 from rfl] at hb
        rw [hb]
        simp)
      exact this _
  · rw [decide_eq_false hl, cond_false, List.getElem?_eq_none (by omega)]
    simp
def zmk (s : Str) : Bool := s.all fun c => !(c == 124)
def ze0 (t : List Str) : Bool := t.all zmk
theorem ziI {t : List Str} (h : Bk.fit t) : zds t = some (ze0 t && zao t) := by
  have hl := zjW h
  unfold zds ze0
  simp only [jn, zaA, ziz h, Option.bind_some]
  rw [za5 (α := Str) (xs := t) (p := zmk) (r0 := some false) (Z := some (zao t)) (f := fun m i => zaK t (fun _ _ => some (zao t)) m false i) (fun m i x hx => by
    have hx2 : x.length ≤ maxi := zlJ h hx
    have b124 : ∀ u : UInt8, (((UInt8.toNat u : Nat) : Int) == (124 : Int)) = (u == 124) := fun u => by
      have hb := ziG u 124
      rw [show (((UInt8.toNat (124 : UInt8) : Nat) : Int)) = 124 from rfl] at hb
      exact hb
    simp only [zaK, zat hx, zaf hx, cond_true, jn, Option.getD_some]
    rw [za5 (α := UInt8) (xs := x) (p := fun c => !(c == 124)) (r0 := some false) (Z := zaK t (fun _ _ => some (zao t)) m false ((i + 1 : Nat) : Int)) (f := fun m' k => zbi t (i : Int) (fun y10 y11 => zaK t (fun _ _ => some (zao t)) m y10 (w64 ((i : Int) + 1))) m' false k) (fun m' k c hc => by
      simp only [zbi, zaf hx, Option.bind_some, zat hc, cond_true, zgS hc, b124, zag (zaP hc) hx2]
      cases c == 124 <;> rfl) (fun m' => by simp only [zbi, zaf hx, Option.bind_some, zai, cond_false, zag (zaP hx) hl]) (by omega)]
    rfl) (fun m => by simp only [zaK, zai, cond_false]) (by omega)]
  cases t.all zmk <;> rfl
def opB (o : Op) : Bool :=
  zaM o.Branch && (zaM o.Who &&
    (bif o.Kind == 1 then za0 o.Path && (zao o.Text && (ze0 o.Text && (o.To == [] && o.At == 0)))
     else bif o.Kind == 2 then za0 o.Path && (o.To == [] && (o.At == 0 && (o.Text.length : Int) == 0))
     else bif o.Kind == 3 then za0 o.Path && (za0 o.To && (o.At == 0 && (o.Text.length : Int) == 0))
     else bif o.Kind == 4 || o.Kind == 5 then zaM o.To && (o.Path == [] && (o.At == 0 && (o.Text.length : Int) == 0))
     else bif o.Kind == 6 || o.Kind == 7 then (decide (0 ≤ o.At) && decide (o.At ≤ 15)) && (o.Path == [] && (o.To == [] && (o.Text.length : Int) == 0))
     else false))
structure OpFit (o : Op) : Prop where
  fit : Bk.fit o
  path : o.Path.length ≤ 1048576
  to : o.To.length ≤ 1048576
  text : Bk.bulk o.Text ≤ 1048576
theorem OpFit.of {o : Op} (h : Bk.fit o) (hb : Bk.bulk o ≤ 1048576) : OpFit o := by
  have e : Bk.bulk o = Bk.bulk o.Kind + (Bk.bulk o.Branch + (Bk.bulk o.Who + (Bk.bulk o.Path + (Bk.bulk o.To + (Bk.bulk o.At + Bk.bulk o.Text))))) := rfl
  have e1 : Bk.bulk o.Path = o.Path.length := rfl
  have e2 : Bk.bulk o.To = o.To.length := rfl
  exact ⟨h, by omega, by omega, by omega⟩
theorem zn2 (o : Op) (p q r s : Bool) : zci o p q r s = some ((p || o.Path == []) && ((q || o.To == []) && ((r || o.At == 0) && (s || (o.Text.length : Int) == 0)))) := by
  unfold zci
  simp only [jn]
  cases p <;> cases q <;> cases r <;> cases s <;> cases (o.Path == ([] : Str)) <;> cases (o.To == ([] : Str)) <;> cases ((o.At : Int) == (0 : Int)) <;> rfl
theorem zml {o : Op} (h : OpFit o) : ze8 o = some (opB o) := by
  obtain ⟨f0, f1, f2, f3, f4, f5, f6⟩ := h.fit
  unfold ze8 opB
  simp only [jn, zcb f1, zcb f2, zcb f4, zfg h.path, zfg h.to, ziI f6, zn2, Option.bind_some, zeZ]
  cases zaM o.Branch
  · rfl
  cases zaM o.Who
  · rfl
  simp only [Bool.not_true, cond_false, Bool.true_and, Bool.true_or, Bool.false_or, Bool.and_true]
  cases (o.Kind == (1 : Int))
  case true => cases za0 o.Path <;> cases zao o.Text <;> cases ze0 o.Text <;> cases (o.To == ([] : Str)) <;> cases (o.At == (0 : Int)) <;> rfl
  cases (o.Kind == (2 : Int))
  case true => cases za0 o.Path <;> cases (o.To == ([] : Str)) <;> cases (o.At == (0 : Int)) <;> cases ((o.Text.length : Int) == 0) <;> rfl
  cases (o.Kind == (3 : Int))
  case true => cases za0 o.Path <;> cases za0 o.To <;> cases (o.At == (0 : Int)) <;> cases ((o.Text.length : Int) == 0) <;> rfl
  simp only [cond_false]
  cases (o.Kind == (4 : Int)) <;> cases (o.Kind == (5 : Int)) <;> cases (o.Kind == (6 : Int)) <;> cases (o.Kind == (7 : Int)) <;> cases zaM o.To <;> cases (o.Path == ([] : Str)) <;> cases (o.At == (0 : Int)) <;> cases (o.To == ([] : Str)) <;> cases ((o.Text.length : Int) == 0) <;> cases (decide (0 ≤ o.At) && decide (o.At ≤ 15)) <;> rfl
theorem zd5 : ∀ {b c : Bool}, (b = true ↔ c = true) → b = c := by decide
theorem zkN {i n : Nat} (hi : i < n) (hn : n ≤ maxi) (h0 : (0 : Int) < (i : Int)) : w64 ((i : Int) - 1) = ((i - 1 : Nat) : Int) := by
  rw [zar (by omega) (by unfold maxi at hn; omega)]; omega
structure FB (f : File) : Prop where
  path : f.Path.length ≤ 1048576
  len : f.Text.length ≤ 1048576
  text : Bk.fit f.Text
def TB (t : List File) : Prop := t.length ≤ 1048576 ∧ ∀ f ∈ t, FB f
theorem TB.at_ {t : List File} (h : TB t) {i : Nat} {f : File} (hf : t[i]? = some f) : FB f := h.2 f (List.mem_of_getElem? hf)
theorem TB.maxi {t : List File} (h : TB t) : t.length ≤ maxi := zaG h.1
theorem TB.nil : TB [] := ⟨by simp, fun f hf => by simp at hf⟩
def zef : File := ⟨[], []⟩
theorem zcN {t : List File} {i : Nat} {f : File} (h : t[i]? = some f) : t.getD i zef = f := by simp [List.getD, h]
theorem zja {t : List File} {i : Nat} {f : File} (h : t[i]? = some f) (hl : t.length ≤ maxi) (h0 : (0 : Int) < (i : Int)) : ∃ y, gi t (w64 ((i : Int) - 1)) = some y ∧ t.getD (i - 1) zef = y := by
  have hi := zaP h
  have hx : t[i - 1]? = some t[i - 1] := List.getElem?_eq_getElem (by omega)
  exact ⟨_, by rw [zkN hi hl h0]; exact zaf hx, zcN hx⟩
def zgG (t : List File) (i : Nat) : Bool := za0 (t.getD i zef).Path && (zao (t.getD i zef).Text && (bif decide (0 < (i : Int)) then Op.bytesLess (t.getD (i - 1) zef).Path (t.getD i zef).Path else true))
def zgH (t : List File) (i : Nat) : Bool := zgG t i && t.all fun f => !zbe (t.getD i zef).Path f.Path
def ziJ (t : List File) (i : Nat) : Bool := zgG t i && (t.take i).all fun f => !(za0 f.Path && (za0 (t.getD i zef).Path && zbe f.Path (t.getD i zef).Path))
def zay (t : List File) : Bool := decide ((t.length : Int) ≤ 8) && zfJ (zgH t) 0 t.length
theorem zn3 (d : Str) (x : UInt8) (r : Str) : d < d ++ x :: r := by
  induction d with
  | nil => exact List.nil_lt_cons _ _
  | cons a d ih => exact List.cons_lt_cons_self.2 ih
theorem zmm {d p : Str} (h : zbe d p = true) : d < p := by
  unfold zbe at h
  obtain ⟨t, rfl⟩ := List.isPrefixOf_iff_prefix.1 h
  rw [List.append_assoc]
  exact zn3 d 47 t
theorem zjb {t : List File} {n : Nat} (h : ∀ i, i < n → zgG t i = true) {i j : Nat} (hij : i < j) (hj : j < n) : (t.getD i zef).Path < (t.getD j zef).Path := by
  induction j with
  | zero => omega
  | succ j ih =>
    have h1 := h (j + 1) hj
    unfold zgG at h1
    rw [decide_eq_true (by omega), cond_true, Nat.add_sub_cancel] at h1
    simp only [Bool.and_eq_true, zbf, decide_eq_true_eq] at h1
    rcases Nat.lt_or_ge i j with h2 | h2
    · exact zbh (ih h2 (by omega)) h1.2.2
    · have : i = j := by omega
      subst this
      exact h1.2.2
theorem zjF (t : List File) : zfJ (ziJ t) 0 t.length = zfJ (zgH t) 0 t.length := by
  apply zd5
  rw [zau, zau]
  constructor
  · intro h
    have hf : ∀ i, i < t.length → zgG t i = true := fun i hi => by
      have := h i (Nat.zero_le _) (by omega)
      unfold ziJ at this
      simp only [Bool.and_eq_true] at this
      exact this.1
    intro i _ hi
    have hi' : i < t.length := by omega
    unfold zgH
    rw [hf i hi', Bool.true_and, List.all_eq_true]
    intro f hm
    obtain ⟨k, hk⟩ := List.mem_iff_getElem?.1 hm
    have hkl := zaP hk
    cases hb : zbe (t.getD i zef).Path f.Path with
    | false => rfl
    | true =>
      exfalso
      have hlt := zmm hb
      rcases Nat.lt_trichotomy i k with h1 | h1 | h1
      · have := h k (Nat.zero_le _) (by omega)
        unfold ziJ at this
        simp only [Bool.and_eq_true, List.all_eq_true] at this
        have h2 := this.2 t[i] (List.mem_of_getElem? (i := i) (by rw [List.getElem?_take_of_lt h1]; exact List.getElem?_eq_getElem hi'))
        have p1 := hf i hi'
        have p2 := hf k hkl
        unfold zgG at p1 p2
        simp only [Bool.and_eq_true] at p1 p2
        rw [zcN hk] at h2 p2
        rw [zcN (List.getElem?_eq_getElem hi')] at hb p1
        rw [p1.1, p2.1, hb] at h2
        simp at h2
      · subst h1
        rw [zcN hk] at hlt
        exact zas _ hlt
      · have := zjb hf h1 hi'
        rw [zcN hk] at this
        exact zas _ (zbh hlt this)
  · intro h i _ hi
    have hi' : i < t.length := by omega
    have h1 := h i (Nat.zero_le _) hi
    unfold zgH at h1
    simp only [Bool.and_eq_true] at h1
    unfold ziJ
    rw [h1.1, Bool.true_and, List.all_eq_true]
    intro f hm
    obtain ⟨k, hk⟩ := List.mem_iff_getElem?.1 hm
    obtain ⟨hk', hki⟩ := show t[k]? = some f ∧ k < i from by
      rw [List.getElem?_take] at hk
      split at hk
      · exact ⟨hk, by assumption⟩
      · cases hk
    have h2 := h k (Nat.zero_le _) (by omega)
    unfold zgH at h2
    simp only [Bool.and_eq_true, List.all_eq_true] at h2
    have h3 := h2.2 t[i] (List.getElem_mem hi')
    rw [zcN hk'] at h3
    rw [zcN (List.getElem?_eq_getElem hi')]
    have h4 : zbe f.Path t[i].Path = false := by simpa using h3
    rw [h4]
    simp
theorem ze1 {t : List File} (h : TB t) : zcp t = some (zay t) := by
  have hm := h.maxi
  unfold zcp zay
  simp only [jn, zaA]
  rw [zbg (n := t.length) (g := zgH t) (r0 := some false) (Z := some (decide ((t.length : Int) ≤ 8))) (f := fun m i => zc3 t (fun _ _ => some (decide ((t.length : Int) ≤ 8))) m false i) (fun m i hi => by
    have hx : t[i]? = some t[i] := List.getElem?_eq_getElem hi
    have fx := h.at_ hx
    simp only [zc3, jn, zat hx, zaf hx, cond_true, Option.bind_some, zag hi hm, zfg fx.path, ziz fx.text]
    unfold zgH zgG
    rw [zcN hx]
    have hin : ∀ K : Bool → Int → Option Bool, zcj t (i : Int) K (t.length + 1) false 0 = bif t.all (fun f => !zbe t[i].Path f.Path) then K false (t.length : Int) else some false := fun K => by
      rw [za5 (α := File) (xs := t) (p := fun f => !zbe t[i].Path f.Path) (r0 := some false) (Z := K false (t.length : Int)) (f := fun m k => zcj t (i : Int) K m false k) (fun m k f hf => by
        simp only [zcj, zat hf, zaf hf, zaf hx, cond_true, Option.bind_some, zag (zaP hf) hm, ziH (h.at_ hf).path]
        cases zbe t[i].Path f.Path <;> rfl) (fun m => by simp only [zcj, zai, cond_false]) (by omega)]
    cases za0 t[i].Path
    · rfl
    cases zao t[i].Text
    · rfl
    simp only [Bool.not_true, cond_false, Bool.true_and]
    by_cases h0 : (0 : Int) < (i : Int)
    · obtain ⟨y, hy, ey⟩ := zja hx hm h0
      rw [hy, ey, decide_eq_true h0]
      simp only [Option.bind_some, zi9, cond_true]
      cases Op.bytesLess y.Path t[i].Path
      · rfl
      · simp only [Bool.not_true, cond_false, Bool.true_and, zaA, hin]
    · rw [decide_eq_false h0]
      simp only [cond_false, Bool.true_and, zaA, hin]) (fun m => by simp only [zc3, zai, cond_false]) _ (by omega)]
  cases decide ((t.length : Int) ≤ 8) <;> cases zfJ (zgH t) 0 t.length <;> rfl
theorem zjG {d p : Str} (hd : d.length ≤ 1048576) (hp : p.length ≤ 1048576) : zcf d p = some (za0 d && (za0 p && zbe d p)) := by
  cases h1 : za0 d with
  | false => unfold zcf; simp only [jn, zdI hd, h1, Option.bind_some, cond_false, Bool.false_and]
  | true =>
    cases h2 : za0 p with
    | false => unfold zcf; simp only [jn, zdI hd, zdI hp, h1, h2, Option.bind_some, cond_false, cond_true, Bool.false_and, Bool.and_false]
    | true => rw [zkM hd hp h1 h2]; rfl
theorem zkO {t : List File} (h : TB t) : zeb t = some (zay t) := by
  have hm := h.maxi
  unfold zeb zay
  by_cases h8 : (8 : Int) < (t.length : Int)
  · rw [decide_eq_true h8, decide_eq_false (by omega)]; rfl
  rw [decide_eq_false h8, decide_eq_true (by omega), cond_false, Bool.true_and, ← zjF]
  simp only [jn, zaA]
  rw [zbg (n := t.length) (g := ziJ t) (r0 := some false) (Z := some true) (f := fun m i => zb5 t (fun _ _ => some true) m false i) (fun m i hi => by
    have hx : t[i]? = some t[i] := List.getElem?_eq_getElem hi
    have fx := h.at_ hx
    simp only [zb5, jn, zat hx, zaf hx, cond_true, Option.bind_some, zag hi hm, zdI fx.path, zes fx.text, zfI (Nat.le_of_lt hi), zaA]
    unfold ziJ zgG
    rw [zcN hx]
    have hin : ∀ K : Bool → Int → Option Bool, zbl t[i] (t.take i) K ((t.take i).length + 1) false 0 = bif (t.take i).all (fun f => !(za0 f.Path && (za0 t[i].Path && zbe f.Path t[i].Path))) then K false ((t.take i).length : Int) else some false := fun K => by
      rw [za5 (α := File) (xs := t.take i) (p := fun f => !(za0 f.Path && (za0 t[i].Path && zbe f.Path t[i].Path))) (r0 := some false) (Z := K false ((t.take i).length : Int)) (f := fun m k => zbl t[i] (t.take i) K m false k) (fun m k f hf => by
        have hf2 : FB f := h.2 f (List.mem_of_mem_take (List.mem_of_getElem? hf))
        simp only [zbl, zat hf, zaf hf, cond_true, Option.bind_some, zag (zaP hf) (show (t.take i).length ≤ maxi by simp; omega), zjG hf2.path fx.path]
        cases (za0 f.Path && (za0 t[i].Path && zbe f.Path t[i].Path)) <;> rfl) (fun m => by simp only [zbl, zai, cond_false]) (by omega)]
    cases zao t[i].Text
    · cases za0 t[i].Path <;> rfl
    cases hp : za0 t[i].Path
    · rfl
    simp only [Bool.not_true, cond_false, Bool.true_and]
    by_cases h0 : (0 : Int) < (i : Int)
    · obtain ⟨y, hy, ey⟩ := zja hx hm h0
      rw [hy, ey, decide_eq_true h0]
      simp only [Option.bind_some, cond_true]
      cases Op.bytesLess y.Path t[i].Path
      · rfl
      · simp only [Bool.not_true, cond_false, Bool.true_and, zaA, hin, hp]
    · rw [decide_eq_false h0]
      simp only [cond_false, Bool.true_and, zaA, hin, hp]) (fun m => by simp only [zb5, zai, cond_false]) _ (by omega)]
  cases zfJ (ziJ t) 0 t.length <;> rfl
structure CB (c : Commit) : Prop where
  par : c.Parents.length ≤ 1048576
  who : c.Who.length ≤ 1048576
  tree : TB c.Tree
structure RpB (r : Repo) : Prop where
  coms : r.Commits.length ≤ 1048576
  com : ∀ c ∈ r.Commits, CB c
  heads : r.Heads.length ≤ 1048576
  head : ∀ h ∈ r.Heads, h.Name.length ≤ 1048576
theorem RpB.cat {r : Repo} (h : RpB r) {i : Nat} {c : Commit} (hc : r.Commits[i]? = some c) : CB c := h.com c (List.mem_of_getElem? hc)
theorem RpB.hat {r : Repo} (h : RpB r) {i : Nat} {c : Head} (hc : r.Heads[i]? = some c) : c.Name.length ≤ 1048576 := h.head c (List.mem_of_getElem? hc)
def ze3 : Head := ⟨[], 0⟩
theorem zcD {t : List Head} {i : Nat} {f : Head} (h : t[i]? = some f) : t.getD i ze3 = f := by simp [List.getD, h]
theorem zjc {t : List Head} {i : Nat} {f : Head} (h : t[i]? = some f) (hl : t.length ≤ maxi) (h0 : (0 : Int) < (i : Int)) : ∃ y, gi t (w64 ((i : Int) - 1)) = some y ∧ t.getD (i - 1) ze3 = y := by
  have hi := zaP h
  have hx : t[i - 1]? = some t[i - 1] := List.getElem?_eq_getElem (by omega)
  exact ⟨_, by rw [zkN hi hl h0]; exact zaf hx, zcD hx⟩
def upB (i p : Int) : Bool := decide (0 ≤ p) && decide (p ≤ i - 1)
def zlx (ps : List Int) : Bool := match ps with
  | [p, q] => !(p == q)
  | _ => true
def zjH (i : Int) (c : Commit) : Bool := c.Parents.all (upB i) && (decide ((c.Parents.length : Int) ≤ 2) && (zlx c.Parents && (zaM c.Who && zay c.Tree)))
def noCommit : Commit := ⟨[], [], []⟩
def zkc (cs : List Commit) : Bool := zfJ (fun i => zjH i (cs.getD i noCommit)) 0 cs.length
def zfW (n : Nat) (hs : List Head) (i : Nat) : Bool := zaM (hs.getD i ze3).Name && (upB n (hs.getD i ze3).At && (bif decide (0 < (i : Int)) then Op.bytesLess (hs.getD (i - 1) ze3).Name (hs.getD i ze3).Name else true))
def zdJ (n : Nat) (hs : List Head) : Bool := zfJ (zfW n hs) 0 hs.length && decide ((hs.length : Int) ≤ 5)
def zac (r : Repo) : Bool := decide ((r.Commits.length : Int) ≤ 16) && (zkc r.Commits && zdJ r.Commits.length r.Heads)
theorem zdf {t : List Commit} {i : Nat} {f : Commit} (h : t[i]? = some f) : t.getD i noCommit = f := by simp [List.getD, h]
theorem ze4 {n : Nat} (hn : n ≤ maxi) : w64 ((n : Int) - 1) = (n : Int) - 1 := zar (by omega) (by unfold maxi at hn; omega)
def zn4 (i : Int) (ps : List Int) (k : Nat) : Bool := upB i (ps.getD k 0) && !(decide (0 < (k : Int)) && (ps.getD k 0 == ps.getD 0 0))
theorem zdy {t : List Int} {i : Nat} {f : Int} (h : t[i]? = some f) : t.getD i 0 = f := by simp [List.getD, h]
theorem zkP (i : Int) (ps : List Int) (h2 : (ps.length : Int) ≤ 2) : zfJ (zn4 i ps) 0 ps.length = (ps.all (upB i) && zlx ps) := by
  match ps, h2 with
  | [], _ => rfl
  | [p], _ => simp [zfJ, zn4, zlx]
  | [p, q], _ =>
    simp only [zfJ, zn4, zlx, List.length_cons, List.length_nil, List.all_cons, List.all_nil]
    have e : (q == p) = (p == q) := by
      apply zd5; rw [beq_iff_eq, beq_iff_eq]; exact eq_comm
    simp [e]
    cases upB i p <;> cases upB i q <;> simp
  | p :: q :: s :: l, h => simp at h; omega
theorem zse {i : Nat} {c : Commit} (hi : i ≤ 1048576) (hc : CB c) (K : Bool → Int → Option Bool) : zck (i : Int) c K (c.Parents.length + 1) false 0 = bif zfJ (zn4 i c.Parents) 0 c.Parents.length then K false (c.Parents.length : Int) else some false := by
  have hm := zaG hc.par
  rw [zbg (n := c.Parents.length) (g := zn4 i c.Parents) (r0 := some false) (Z := K false (c.Parents.length : Int)) (f := fun m k => zck (i : Int) c K m false k) (fun m k hk => by
    have hx : c.Parents[k]? = some c.Parents[k] := List.getElem?_eq_getElem hk
    have h00 : c.Parents[0]? = some c.Parents[0] := List.getElem?_eq_getElem (by omega)
    have hg0 : gi c.Parents 0 = some c.Parents[0] := zaf (i := 0) h00
    simp only [zck, jn, zat hx, zaf hx, hg0, cond_true, Option.bind_some, zag hk hm, zeZ, ze4 (show i ≤ maxi by unfold maxi; omega)]
    unfold zn4
    rw [zdy hx, zdy h00, show (decide ((0 : Int) ≤ c.Parents[k]) && decide (c.Parents[k] ≤ (i : Int) - 1)) = upB i c.Parents[k] from rfl]
    cases upB (i : Int) c.Parents[k]
    · rfl
    · cases decide ((0 : Int) < (k : Int))
      · rfl
      · cases (c.Parents[k] == c.Parents[0]) <;> rfl) (fun m => by simp only [zck, zai, cond_false]) _ (by omega)]
theorem zsf {r : Repo} (h : RpB r) : zcl r (fun _ _ => jn (fun (y128 : Bool) => some y128) fun K130 => bif decide (((r.Commits.length : Int) : Int) ≤ (16 : Int)) then (K130 (decide (((r.Heads.length : Int) : Int) ≤ (5 : Int)))) else (K130 false)) (r.Heads.length + 1) false 0 = some (decide ((r.Commits.length : Int) ≤ 16) && zdJ r.Commits.length r.Heads) := by
  have hm := zaG h.heads
  rw [zbg (n := r.Heads.length) (g := zfW r.Commits.length r.Heads) (r0 := some false) (Z := some (decide ((r.Commits.length : Int) ≤ 16) && decide ((r.Heads.length : Int) ≤ 5))) (f := fun m k => zcl r _ m false k) (fun m k hk => by
    have hx : r.Heads[k]? = some r.Heads[k] := List.getElem?_eq_getElem hk
    simp only [zcl, jn, zat hx, zaf hx, cond_true, Option.bind_some, zag hk hm, zeZ, ze4 (zaG h.coms), zcb (zaG (h.hat hx))]
    unfold zfW
    rw [zcD hx, show (decide ((0 : Int) ≤ r.Heads[k].At) && decide (r.Heads[k].At ≤ (r.Commits.length : Int) - 1)) = upB r.Commits.length r.Heads[k].At from rfl]
    cases zaM r.Heads[k].Name
    · rfl
    cases upB r.Commits.length r.Heads[k].At
    · rfl
    by_cases h0 : (0 : Int) < (k : Int)
    · obtain ⟨y, hy, ey⟩ := zjc hx hm h0
      rw [hy, ey, decide_eq_true h0]
      simp only [Option.bind_some, zi9]
      cases Op.bytesLess y.Name r.Heads[k].Name <;> rfl
    · rw [decide_eq_false h0]; rfl) (fun m => by
      simp only [zcl, zai, cond_false, jn]
      cases decide ((r.Commits.length : Int) ≤ 16) <;> rfl) _ (by omega)]
  unfold zdJ
  cases zfJ (zfW r.Commits.length r.Heads) 0 r.Heads.length <;> cases decide ((r.Commits.length : Int) ≤ 16) <;> rfl
theorem zcX {r : Repo} (h : RpB r) : zbx r = some (zac r) := by
  have hm := zaG h.coms
  unfold zbx zac zkc
  simp only [jn, zaA]
  have h3 := zsf h
  simp only [jn] at h3
  rw [zbg (n := r.Commits.length) (g := fun i => zjH i (r.Commits.getD i noCommit)) (r0 := some false) (Z := some (decide ((r.Commits.length : Int) ≤ 16) && zdJ r.Commits.length r.Heads)) (f := fun m i => zc5 r _ m false i) (fun m i hi => by
    have hx : r.Commits[i]? = some r.Commits[i] := List.getElem?_eq_getElem hi
    have hc := h.cat hx
    have hco := h.coms
    simp only [zc5, jn, zat hx, zaf hx, cond_true, Option.bind_some, zag hi hm, zaA, zse (show i ≤ 1048576 by omega) hc, zdf hx]
    unfold zjH
    by_cases h2 : (2 : Int) < (r.Commits[i].Parents.length : Int)
    · rw [decide_eq_true h2, decide_eq_false (show ¬ (r.Commits[i].Parents.length : Int) ≤ 2 by omega)]
      simp only [cond_true, Bool.false_and, Bool.and_false, cond_false]
      cases zfJ (zn4 i r.Commits[i].Parents) 0 r.Commits[i].Parents.length <;> rfl
    · rw [decide_eq_false h2, decide_eq_true (show (r.Commits[i].Parents.length : Int) ≤ 2 by omega), zkP _ _ (by omega)]
      simp only [cond_false, Bool.true_and, zcb (zaG hc.who), ze1 hc.tree, Option.bind_some]
      cases r.Commits[i].Parents.all (upB i) <;> cases zlx r.Commits[i].Parents <;> cases zaM r.Commits[i].Who <;> cases zay r.Commits[i].Tree <;> rfl) (fun m => by
      simp only [zc5, zai, cond_false, jn, zaA, h3]) _ (by omega)]
  cases zfJ (fun i => zjH i (r.Commits.getD i noCommit)) 0 r.Commits.length <;> cases decide ((r.Commits.length : Int) ≤ 16) <;> rfl
theorem zjI {r : Repo} (h : RpB r) {hs : List Head} (hl : hs.length ≤ 1048576) (hn : ∀ h ∈ hs, h.Name.length ≤ 1048576) : zd1 r hs = some (zdJ r.Commits.length hs) := by
  have hm := zaG hl
  unfold zd1 zdJ
  by_cases h5 : (5 : Int) < (hs.length : Int)
  · rw [decide_eq_true h5, decide_eq_false (show ¬ (hs.length : Int) ≤ 5 by omega), Bool.and_false]; rfl
  rw [decide_eq_false h5, decide_eq_true (show (hs.length : Int) ≤ 5 by omega), cond_false, Bool.and_true]
  simp only [jn, zaA]
  rw [zbg (n := hs.length) (g := zfW r.Commits.length hs) (r0 := some false) (Z := some true) (f := fun m k => zbE r hs (fun _ _ => some true) m false k) (fun m k hk => by
    have hx : hs[k]? = some hs[k] := List.getElem?_eq_getElem hk
    simp only [zbE, zcn, jn, zat hx, zaf hx, cond_true, Option.bind_some, zag hk hm, zdm, ze4 (zaG h.coms), zgq (zaG (hn _ (List.mem_of_getElem? hx)))]
    unfold zfW
    rw [zcD hx, show (decide ((0 : Int) ≤ hs[k].At) && decide (hs[k].At ≤ (r.Commits.length : Int) - 1)) = upB r.Commits.length hs[k].At from rfl]
    cases zaM hs[k].Name
    · rfl
    cases upB r.Commits.length hs[k].At
    · rfl
    by_cases h0 : (0 : Int) < (k : Int)
    · obtain ⟨y, hy, ey⟩ := zjc hx hm h0
      rw [hy, ey, decide_eq_true h0]
      simp only [Option.bind_some]
      cases Op.bytesLess y.Name hs[k].Name <;> rfl
    · rw [decide_eq_false h0]; rfl) (fun m => by simp only [zbE, zai, cond_false]) _ (by omega)]
  cases zfJ (zfW r.Commits.length hs) 0 hs.length <;> rfl
theorem zhI {r : Repo} (h : RpB r) : zeC r = some (zac r) := by
  have hm := zaG h.coms
  unfold zeC zac zkc
  by_cases h16 : (16 : Int) < (r.Commits.length : Int)
  · rw [decide_eq_true h16, decide_eq_false (by omega)]; rfl
  rw [decide_eq_false h16, decide_eq_true (by omega), cond_false, Bool.true_and]
  simp only [jn, zaA]
  rw [zbg (n := r.Commits.length) (g := fun i => zjH i (r.Commits.getD i noCommit)) (r0 := some false) (Z := some (zdJ r.Commits.length r.Heads)) (f := fun m i => zb6 r _ m false i) (fun m i hi => by
    have hx : r.Commits[i]? = some r.Commits[i] := List.getElem?_eq_getElem hi
    have hc := h.cat hx
    have hco := h.coms
    have hpm := zaG hc.par
    have hin : ∀ K : Bool → Int → Option Bool, zbm (i : Int) r.Commits[i] K (r.Commits[i].Parents.length + 1) false 0 = bif r.Commits[i].Parents.all (upB i) then K false (r.Commits[i].Parents.length : Int) else some false := fun K => by
      rw [za5 (α := Int) (xs := r.Commits[i].Parents) (p := upB i) (r0 := some false) (Z := K false (r.Commits[i].Parents.length : Int)) (f := fun m k => zbm (i : Int) r.Commits[i] K m false k) (fun m k p hp => by
        simp only [zbm, zat hp, zaf hp, cond_true, Option.bind_some, zag (zaP hp) hpm, zdm, ze4 (show i ≤ maxi by unfold maxi; omega)]
        rw [show (decide ((0 : Int) ≤ p) && decide (p ≤ (i : Int) - 1)) = upB i p from rfl]
        cases upB i p <;> rfl) (fun m => by simp only [zbm, zai, cond_false]) (by omega)]
    simp only [zb6, jn, zat hx, zaf hx, cond_true, Option.bind_some, zag hi hm, zaA, hin, zdf hx, zgq (zaG hc.who), zkO hc.tree]
    unfold zjH
    match hps : r.Commits[i].Parents with
    | [] => cases zaM r.Commits[i].Who <;> cases zay r.Commits[i].Tree <;> rfl
    | [p] =>
      simp only [List.length_cons, List.length_nil, List.all_cons, List.all_nil, zlx]
      cases upB i p <;> cases zaM r.Commits[i].Who <;> cases zay r.Commits[i].Tree <;> rfl
    | [p, q] =>
      simp only [List.length_cons, List.length_nil, List.all_cons, List.all_nil, zlx, gi, List.getElem?_cons_zero, List.getElem?_cons_succ, Int.toNat_zero, Int.toNat_one]
      cases upB i p <;> cases upB i q <;> cases hpq : p == q <;> cases zaM r.Commits[i].Who <;> cases zay r.Commits[i].Tree <;> simp [hpq] <;> rfl
    | p :: q :: s :: l =>
      rw [decide_eq_true (by simp only [List.length_cons]; omega), decide_eq_false (show ¬ (((p :: q :: s :: l).length : Nat) : Int) ≤ 2 by simp only [List.length_cons]; omega)]
      simp only [cond_true, Bool.false_and, Bool.and_false, cond_false]) (fun m => by
      simp only [zb6, zai, cond_false, jn, zjI h h.heads h.head, Option.bind_some]) _ (by omega)]
  cases zfJ (fun i => zjH i (r.Commits.getD i noCommit)) 0 r.Commits.length <;> rfl
def atB (r : Repo) (name : Str) : Int := match r.Heads.find? (fun h => h.Name == name) with
  | some h => h.At
  | none => -1
theorem zd6 {r : Repo} (h : RpB r) (name : Str) : zcc r name = some (atB r name) := by
  have hm := zaG h.heads
  unfold zcc atB
  simp only [jn, zaA]
  rw [zgm (p := fun h : Head => h.Name == name) (xs := r.Heads) (r := fun h => some h.At) (Z := some (-1)) (f := fun m k => zc2 r name _ m 0 k) (fun m i x hx => by
    simp only [zc2, zat hx, zaf hx, cond_true, Option.bind_some, zag (zaP hx) hm]) (fun m => by simp only [zc2, zai, cond_false]) (by omega)]
  cases r.Heads.find? (fun h => h.Name == name) <;> rfl
theorem zdK {t : List File} (h : TB t) : zbu t = some t := by
  have hm := h.maxi
  have hl := h.1
  unfold zbu
  simp only [jn, zaA]
  rw [zev (xs := t) (p := fun _ => true) (g := fun f : File => f) (Z := fun acc => some acc) (f := fun m acc i => zbV t _ m acc i) (fun m i x acc hx ha => by
    have hi := zaP hx
    simp only [zbV, zat hx, zaf hx, cond_true, Option.bind_some, zag hi hm, apN (h.at_ hx).len, ap1 (show acc.length ≤ 1048576 by omega)]) (fun m acc => by simp only [zbV, zai, cond_false]) (by omega)]
  simp
theorem zgt {c : Commit} (h : CB c) : zbO c = some c := by
  unfold zbO
  rw [apN h.par, Option.bind_some, zdK h.tree, Option.bind_some]
theorem zdL {r : Repo} (h : RpB r) : zaS r = some r := by
  have hm := zaG h.coms
  have hl := h.coms
  unfold zaS
  simp only [jn, zaA, apN h.heads, Option.bind_some]
  rw [zev (xs := r.Commits) (p := fun _ => true) (g := fun f : Commit => f) (Z := fun acc => some (Repo.mk acc r.Heads)) (f := fun m acc i => zbW r _ m i acc r.Heads) (fun m i x acc hx ha => by
    have hi := zaP hx
    simp only [zbW, zat hx, zaf hx, cond_true, Option.bind_some, zag hi hm, zgt (h.cat hx), ap1 (show acc.length ≤ 1048576 by omega)]) (fun m acc => by simp only [zbW, zai, cond_false]) (by omega)]
  rw [show ((r.Commits.filter fun _ => true).map fun f : Commit => f) = r.Commits by simp]
def zem (n : Str) (a : Int) : Bool → List Head → List Head
  | put, [] => bif put then [] else [⟨n, a⟩]
  | put, h :: hs => (bif !put && !Op.bytesLess h.Name n then [⟨n, a⟩] else []) ++ ((bif h.Name != n then [h] else []) ++ zem n a (put || !Op.bytesLess h.Name n) hs)
theorem zfh (n : Str) (a : Int) : ∀ (hs : List Head) (put : Bool), (zem n a put hs).length + (bif put then 1 else 0) ≤ hs.length + 1
  | [], put => by cases put <;> simp [zem]
  | h :: hs, put => by
    have ih := zfh n a hs (put || !Op.bytesLess h.Name n)
    unfold zem
    cases put <;> cases hb : Op.bytesLess h.Name n <;> cases hn : (h.Name != n) <;> simp [hb] at ih ⊢ <;> omega
theorem putH_mem (n : Str) (a : Int) : ∀ (hs : List Head) (put : Bool) (x : Head), x ∈ zem n a put hs → x ∈ hs ∨ x = ⟨n, a⟩
  | [], put, x, h => by cases put <;> simp [zem] at h; exact .inr h
  | h :: hs, put, x, hx => by
    unfold zem at hx
    rcases List.mem_append.1 hx with h1 | h1
    · cases hc : (!put && !Op.bytesLess h.Name n) with
      | true => rw [hc] at h1; simp at h1; exact .inr h1
      | false => rw [hc] at h1; simp at h1
    · rcases List.mem_append.1 h1 with h2 | h2
      · cases hc : (h.Name != n) with
        | true => rw [hc] at h2; simp at h2; exact .inl (by rw [h2]; simp)
        | false => rw [hc] at h2; simp at h2
      · rcases putH_mem n a hs _ x h2 with h3 | h3
        · exact .inl (List.mem_cons_of_mem _ h3)
        · exact .inr h3
theorem zhJ {r : Repo} (h : RpB r) (hs : r.Heads.length ≤ 100000) (n : Str) (a : Int) (cs : List Commit) : ∀ (k i m : Nat) (put : Bool) (out : List Head), i + k = r.Heads.length → k < m → out.length ≤ 2 * i →
    zbX r n a (fun y14 _ y16 y19 => bif (!y14) then ((apM y19 [Vm.Head.mk n a]).bind fun q160 => some (Vm.Repo.mk y16 q160)) else some (Vm.Repo.mk y16 y19)) m put (i : Int) cs out = some ⟨cs, out ++ zem n a put (r.Heads.drop i)⟩
  | k, i, 0, put, out, _, hm, _ => by omega
  | 0, i, m + 1, put, out, hi, _, ho => by
    obtain rfl : i = r.Heads.length := by omega
    simp only [zbX, zai, cond_false, List.drop_length]
    cases put
    · simp only [Bool.not_false, cond_true, ap1 (show out.length ≤ 1048576 by omega), Option.bind_some, zem, cond_false]
    · simp [zem]
  | k + 1, i, m + 1, put, out, hi, hm, ho => by
    have hlt : i < r.Heads.length := by omega
    have hx : r.Heads[i]? = some r.Heads[i] := List.getElem?_eq_getElem hlt
    have hd : r.Heads.drop i = r.Heads[i] :: r.Heads.drop (i + 1) := List.drop_eq_getElem_cons hlt
    have hw := zag hlt (zaG h.heads)
    have ih := fun put out ho => zhJ h hs n a cs k (i + 1) m put out (by omega) (by omega) ho
    simp only [zbX, jn, zat hx, zaf hx, cond_true, Option.bind_some, hw]
    rw [hd]
    unfold zem
    have e1 := ap1 (x := Vm.Head.mk n a) (show out.length ≤ 1048576 by omega)
    have e2 := ap1 (x := r.Heads[i]) (show out.length ≤ 1048576 by omega)
    have e3 : apM (out ++ [Vm.Head.mk n a]) [r.Heads[i]] = some (out ++ ([Vm.Head.mk n a] ++ [r.Heads[i]])) := by rw [ap1 (show (out ++ [Vm.Head.mk n a]).length ≤ 1048576 by simp; omega), List.append_assoc]
    have l1 : (out ++ [r.Heads[i]]).length ≤ 2 * (i + 1) := by simp; omega
    have l2 : (out ++ [Vm.Head.mk n a]).length ≤ 2 * (i + 1) := by simp; omega
    have l3 : (out ++ ([Vm.Head.mk n a] ++ [r.Heads[i]])).length ≤ 2 * (i + 1) := by simp; omega
    have l0 : out.length ≤ 2 * (i + 1) := by omega
    cases put <;> cases Op.bytesLess r.Heads[i].Name n <;> cases (r.Heads[i].Name != n) <;>
      simp only [Bool.not_true, Bool.not_false, cond_true, cond_false, e1, e2, e3, Option.bind_some, Bool.and_true, Bool.and_false, Bool.or_true, Bool.or_false, Bool.true_and, Bool.false_and, Bool.true_or, Bool.false_or, ih _ _ l0, ih _ _ l1, ih _ _ l2, ih _ _ l3, List.append_assoc, List.nil_append]
def headR (r : Repo) (n : Str) (a : Int) : Repo := ⟨r.Commits, zem n a false r.Heads⟩
theorem zgu {r : Repo} (h : RpB r) (hs : r.Heads.length ≤ 100000) (n : Str) (a : Int) : zdA r n a = some (headR r n a) := by
  unfold zdA headR
  simp only [jn, zaA]
  have := zhJ h hs n a r.Commits r.Heads.length 0 (r.Heads.length + 1) false [] (by omega) (by omega) (by simp)
  simpa using this
theorem RpB.headR {r : Repo} (h : RpB r) (hs : r.Heads.length ≤ 100000) {n : Str} (hn : n.length ≤ 1048576) (a : Int) : RpB (headR r n a) :=
  ⟨h.coms, h.com, by have := zfh n a r.Heads false; simp at this; show (zem n a false r.Heads).length ≤ _; omega, fun x hx => by
    rcases putH_mem n a r.Heads false x hx with h1 | h1
    · exact h.head x h1
    · rw [h1]; exact hn⟩
def addR (r : Repo) (n : Str) (c : Commit) : Repo := ⟨r.Commits ++ [c], zem n r.Commits.length false r.Heads⟩
theorem RpB.push {r : Repo} (h : RpB r) {c : Commit} (hc : CB c) (hl : r.Commits.length ≤ 100000) : RpB ⟨r.Commits ++ [c], r.Heads⟩ :=
  ⟨by simp; omega, fun x hx => by
    rcases List.mem_append.1 hx with h1 | h1
    · exact h.com x h1
    · rw [List.mem_singleton] at h1; rw [h1]; exact hc, h.heads, h.head⟩
theorem RpB.addR {r : Repo} (h : RpB r) (hl : r.Commits.length ≤ 100000) (hs : r.Heads.length ≤ 100000) {n : Str} (hn : n.length ≤ 1048576) {c : Commit} (hc : CB c) : RpB (addR r n c) :=
  (h.push hc hl).headR hs hn _
theorem zjd {r : Repo} (h : RpB r) (hl : r.Commits.length ≤ 100000) (hs : r.Heads.length ≤ 100000) (n : Str) {c : Commit} (hc : CB c) : zcM r n c = some (addR r n c) := by
  unfold zcM
  rw [apN h.coms, Option.bind_some, ap1 h.coms, Option.bind_some, zgu (h.push hc hl) hs, Option.bind_some]
  rfl
theorem zah {r : Repo} (h : zac r = true) : r.Commits.length ≤ 16 ∧ r.Heads.length ≤ 5 := by
  unfold zac zdJ at h
  simp only [Bool.and_eq_true, decide_eq_true_eq] at h
  omega
def zet (r : Repo) (n who : Str) (t : List File) : Commit := ⟨bif decide (0 ≤ atB r n) then [atB r n] else [], who, t⟩
def zbr : Repo := ⟨[], []⟩
def zdz (r : Repo) (n who : Str) (t : List File) : Repo × Bool := bif zac r then (bif zac (addR r n (zet r n who t)) then (addR r n (zet r n who t), true) else (r, false)) else (zbr, false)
theorem CB.next {r : Repo} {n who : Str} {t : List File} (hw : who.length ≤ 1048576) (ht : TB t) : CB (zet r n who t) :=
  ⟨by unfold zet; cases decide (0 ≤ atB r n) <;> simp, hw, ht⟩
theorem zgT {r : Repo} (h : RpB r) {n who : Str} {t : List File} (hn : n.length ≤ 1048576) (hw : who.length ≤ 1048576) (ht : TB t) : zcH r n who t = some (zdz r n who t) := by
  unfold zcH zdz
  rw [zcX h, Option.bind_some]
  cases hr : zac r with
  | false => rfl
  | true =>
    obtain ⟨s1, s2⟩ := zah hr
    have hc : CB (zet r n who t) := CB.next hw ht
    have ha := zjd h (by omega) (by omega) n hc
    have hb := h.addR (by omega) (by omega) hn hc
    have hfin : (zaS r).bind (fun z57 => (zcM ⟨z57.Commits, z57.Heads⟩ n (zet r n who t)).bind fun z66 => (zbx z66).bind fun z204 => bif (!z204) then ((zaS r).bind fun z219 => some (Vm.Repo.mk z219.Commits z219.Heads, false)) else (some (z66, true))) = some (bif zac (addR r n (zet r n who t)) then (addR r n (zet r n who t), true) else (r, false)) := by
      rw [zdL h, Option.bind_some, show (⟨r.Commits, r.Heads⟩ : Repo) = r from rfl, ha, Option.bind_some, zcX hb, Option.bind_some]
      cases zac (addR r n (zet r n who t)) <;> rfl
    rw [Bool.not_true, cond_false, cond_true, zdK ht, Option.bind_some]
    simp only [jn, zd6 h, Option.bind_some]
    unfold zet at hfin ⊢
    cases hd : decide (0 ≤ atB r n) <;> rw [hd] at hfin <;> exact hfin
def zeu (r : Repo) (n : Str) (a : Int) : Repo × Bool := bif zac r then (bif decide (0 ≤ atB r n) || !zac (headR r n a) then (r, false) else (headR r n a, true)) else (zbr, false)
theorem zgU {r : Repo} (h : RpB r) {n : Str} (hn : n.length ≤ 1048576) (a : Int) : zby r n a = some (zeu r n a) := by
  unfold zby zeu
  rw [zcX h, Option.bind_some]
  cases hr : zac r with
  | false => rfl
  | true =>
    obtain ⟨s1, s2⟩ := zah hr
    rw [Bool.not_true, cond_false, cond_true, zdL h, Option.bind_some, show (⟨r.Commits, r.Heads⟩ : Repo) = r from rfl, zgu h (by omega), Option.bind_some]
    simp only [jn, zd6 h, Option.bind_some, zcX (h.headR (by omega) hn a)]
    cases decide (0 ≤ atB r n) <;> cases zac (headR r n a) <;> rfl
def putF (g : File) : Bool → List File → List File
  | put, [] => bif put then [] else [g]
  | put, f :: fs => (bif !put && !Op.bytesLess f.Path g.Path then [g] else []) ++ ((bif f.Path != g.Path then [f] else []) ++ putF g (put || !Op.bytesLess f.Path g.Path) fs)
theorem zgL (g : File) : ∀ (hs : List File) (put : Bool), (putF g put hs).length + (bif put then 1 else 0) ≤ hs.length + 1
  | [], put => by cases put <;> simp [putF]
  | h :: hs, put => by
    have ih := zgL g hs (put || !Op.bytesLess h.Path g.Path)
    unfold putF
    cases put <;> cases hb : Op.bytesLess h.Path g.Path <;> cases hn : (h.Path != g.Path) <;> simp [hb] at ih ⊢ <;> omega
theorem putF_mem (g : File) : ∀ (hs : List File) (put : Bool) (x : File), x ∈ putF g put hs → x ∈ hs ∨ x = g
  | [], put, x, h => by cases put <;> simp [putF] at h; exact .inr h
  | h :: hs, put, x, hx => by
    unfold putF at hx
    rcases List.mem_append.1 hx with h1 | h1
    · cases hc : (!put && !Op.bytesLess h.Path g.Path) with
      | true => rw [hc] at h1; simp at h1; exact .inr h1
      | false => rw [hc] at h1; simp at h1
    · rcases List.mem_append.1 h1 with h2 | h2
      · cases hc : (h.Path != g.Path) with
        | true => rw [hc] at h2; simp at h2; exact .inl (by rw [h2]; simp)
        | false => rw [hc] at h2; simp at h2
      · rcases putF_mem g hs _ x h2 with h3 | h3
        · exact .inl (List.mem_cons_of_mem _ h3)
        · exact .inr h3
theorem TB.putF {t : List File} (h : TB t) (hs : t.length ≤ 100000) {g : File} (hg : FB g) : TB (putF g false t) :=
  ⟨by have := zgL g t false; simp at this; omega, fun x hx => by
    rcases putF_mem g t false x hx with h1 | h1
    · exact h.2 x h1
    · rw [h1]; exact hg⟩
theorem zje {t : List File} (h : TB t) (hs : t.length ≤ 100000) {g : File} (hg : FB g) {K : List File → Bool → Int → Option (List File)} (hK : ∀ out put j, out.length ≤ 2 * t.length → K out put j = some (bif put then out else out ++ [g])) : ∀ (k i m : Nat) (put : Bool) (out : List File), i + k = t.length → k < m → out.length ≤ 2 * i →
    zcv t g K m out put (i : Int) = some (out ++ putF g put (t.drop i))
  | k, i, 0, put, out, _, hm, _ => by omega
  | 0, i, m + 1, put, out, hi, _, ho => by
    obtain rfl : i = t.length := by omega
    simp only [zcv, zai, cond_false, List.drop_length, hK out put _ ho]
    cases put <;> simp [putF]
  | k + 1, i, m + 1, put, out, hi, hm, ho => by
    have hlt : i < t.length := by omega
    have hx : t[i]? = some t[i] := List.getElem?_eq_getElem hlt
    have hd : t.drop i = t[i] :: t.drop (i + 1) := List.drop_eq_getElem_cons hlt
    have hw := zag hlt h.maxi
    have ih := fun put out ho => zje h hs hg hK k (i + 1) m put out (by omega) (by omega) ho
    simp only [zcv, jn, zat hx, zaf hx, cond_true, Option.bind_some, hw, apN hg.len]
    rw [hd]
    unfold putF
    have e1 := ap1 (x := g) (show out.length ≤ 1048576 by omega)
    have e2 := ap1 (x := t[i]) (show out.length ≤ 1048576 by omega)
    have e3 : apM (out ++ [g]) [t[i]] = some (out ++ ([g] ++ [t[i]])) := by rw [ap1 (show (out ++ [g]).length ≤ 1048576 by simp; omega), List.append_assoc]
    have l1 : (out ++ [t[i]]).length ≤ 2 * (i + 1) := by simp; omega
    have l2 : (out ++ [g]).length ≤ 2 * (i + 1) := by simp; omega
    have l3 : (out ++ ([g] ++ [t[i]])).length ≤ 2 * (i + 1) := by simp; omega
    have l0 : out.length ≤ 2 * (i + 1) := by omega
    have eg : Vm.File.mk g.Path g.Text = g := rfl
    cases put <;> cases Op.bytesLess t[i].Path g.Path <;> cases (t[i].Path != g.Path) <;>
      simp only [Bool.not_true, Bool.not_false, cond_true, cond_false, eg, e1, e2, e3, Option.bind_some, Bool.and_true, Bool.and_false, Bool.or_true, Bool.or_false, Bool.true_and, Bool.false_and, Bool.true_or, Bool.false_or, ih _ _ l0, ih _ _ l1, ih _ _ l2, ih _ _ l3, List.append_assoc, List.nil_append]
theorem zjf {t : List File} (h : TB t) (hs : t.length ≤ 100000) {g : File} (hg : FB g) : zdR t g = some (putF g false t) := by
  unfold zdR
  simp only [jn, zaA]
  have := zje h hs hg (K := fun y6 y9 _ => bif (!y9) then ((apM ([] : List Str) g.Text).bind fun q126 => (apM y6 [Vm.File.mk g.Path q126]).bind fun q144 => some q144) else some y6) (fun out put j ho => by
    cases put
    · simp only [Bool.not_false, cond_true, cond_false, apN hg.len, ap1 (show out.length ≤ 1048576 by omega), Option.bind_some]
    · rfl) t.length 0 (t.length + 1) false [] (by omega) (by omega) (by simp)
  simpa using this
theorem za2 {t : List File} (h : zay t = true) : t.length ≤ 8 := by
  unfold zay at h
  simp only [Bool.and_eq_true, decide_eq_true_eq] at h
  omega
def znS (t : List File) (g : File) : List File × Bool := bif zay t then (bif zay (putF g false t) then (putF g false t, true) else (t, false)) else ([], false)
theorem ziK {t : List File} (h : TB t) {g : File} (hg : FB g) : zc4 t g = some (znS t g) := by
  unfold zc4 znS
  rw [ze1 h, Option.bind_some]
  cases ht : zay t with
  | false => rfl
  | true =>
    have hs := za2 ht
    rw [Bool.not_true, cond_false, cond_true, zdK h, Option.bind_some, zjf h (by omega) hg, Option.bind_some, ze1 (h.putF (by omega) hg), Option.bind_some]
    cases zay (putF g false t) <;> rfl
def zmZ (p : Str) (f : File) : Bool := f.Path != p && !zbe p f.Path
def dropF (p : Str) (t : List File) : List File := t.filter (zmZ p)
theorem zhK {t : List File} (h : TB t) (p : Str) : zd9 t p = some (dropF p t) := by
  have hm := h.maxi
  have hl := h.1
  unfold zd9 dropF
  simp only [jn, zaA]
  rw [zev (xs := t) (p := zmZ p) (g := fun f : File => f) (Z := fun acc => some acc) (f := fun m acc i => zbY t p _ m acc i) (fun m i x acc hx ha => by
    have hi := zaP hx
    simp only [zbY, jn, zat hx, zaf hx, cond_true, Option.bind_some, zag hi hm, ap1 (show acc.length ≤ 1048576 by omega), ziH (h.at_ hx).path]
    unfold zmZ
    cases (x.Path != p) <;> cases zbe p x.Path <;> rfl) (fun m acc => by simp only [zbY, zai, cond_false]) (by omega)]
  simp
theorem TB.dropF {t : List File} (h : TB t) (p : Str) : TB (dropF p t) := ⟨Nat.le_trans (List.length_filter_le _ _) h.1, fun f hf => h.2 f ((List.mem_filter.1 hf).1)⟩
def zpe (t : List File) (p : Str) : List File × Bool := bif zay t then (dropF p t, decide (((dropF p t).length : Int) < (t.length : Int))) else ([], false)
theorem zhL {t : List File} (h : TB t) (p : Str) : zcw t p = some (zpe t p) := by
  unfold zcw zpe
  rw [ze1 h, Option.bind_some]
  cases zay t with
  | false => rfl
  | true => rw [Bool.not_true, cond_false, cond_true, zdK h, Option.bind_some, zhK h, Option.bind_some]
theorem zfi {r : Repo} (h : zac r = true) {i : Nat} (hi : i < r.Commits.length) : zjH i (r.Commits.getD i noCommit) = true := by
  unfold zac zkc at h
  simp only [Bool.and_eq_true] at h
  exact zau.1 h.2.1 i (Nat.zero_le _) (by omega)
def zae (r : Repo) (i : Nat) : List Int := (r.Commits.getD i noCommit).Parents
theorem zaT {r : Repo} (h : zac r = true) {i : Nat} (hi : i < r.Commits.length) : (zae r i).length ≤ 2 ∧ ∀ p ∈ zae r i, 0 ≤ p ∧ p ≤ (i : Int) - 1 := by
  have := zfi h hi
  unfold zjH at this
  simp only [Bool.and_eq_true, decide_eq_true_eq, List.all_eq_true] at this
  obtain ⟨h1, h2, _⟩ := this
  refine ⟨by unfold zae; omega, fun p hp => ?_⟩
  have := h1 p hp
  unfold upB at this
  simp only [Bool.and_eq_true, decide_eq_true_eq] at this
  exact this
theorem zjg {r : Repo} {i : Nat} (hi : i < r.Commits.length) : gi r.Commits (i : Int) = some (r.Commits.getD i noCommit) := by
  rw [zdf (List.getElem?_eq_getElem hi)]
  exact zaf (List.getElem?_eq_getElem hi)
theorem zfj {r : Repo} (h : zac r = true) {x : Head} (hx : x ∈ r.Heads) : 0 ≤ x.At ∧ x.At ≤ (r.Commits.length : Int) - 1 ∧ zaM x.Name = true := by
  obtain ⟨i, hi⟩ := List.mem_iff_getElem?.1 hx
  unfold zac zdJ at h
  simp only [Bool.and_eq_true] at h
  have := zau.1 h.2.2.1 i (Nat.zero_le _) (by have := zaP hi; omega)
  unfold zfW upB at this
  rw [zcD hi] at this
  simp only [Bool.and_eq_true, decide_eq_true_eq] at this
  exact ⟨this.2.1.1, this.2.1.2, this.1⟩
theorem at_range {r : Repo} (h : zac r = true) (n : Str) : atB r n = -1 ∨ (0 ≤ atB r n ∧ atB r n ≤ (r.Commits.length : Int) - 1) := by
  unfold atB
  cases hf : r.Heads.find? (fun h => h.Name == n) with
  | none => exact .inl rfl
  | some x =>
    have := zfj h (List.mem_of_find?_eq_some hf)
    exact .inr ⟨this.1, this.2.1⟩
def zly (mk : List Bool) (p : Int) : List Bool := mk.set p.toNat true
theorem zig (mk : List Bool) (p : Int) : (zly mk p).length = mk.length := by simp [zly]
theorem zhM : ∀ (ps : List Int) (mk : List Bool), (ps.foldl zly mk).length = mk.length
  | [], mk => rfl
  | p :: ps, mk => by rw [List.foldl_cons, zhM ps, zig]
def zkQ (r : Repo) (i : Nat) (mk : List Bool) : List Bool := bif mk.getD i false then (zae r i).foldl zly mk else mk
theorem zg5 (r : Repo) (i : Nat) (mk : List Bool) : (zkQ r i mk).length = mk.length := by
  unfold zkQ
  cases mk.getD i false
  · rfl
  · exact zhM _ _
def zfq (r : Repo) : Nat → List Bool → List Bool
  | 0, mk => mk
  | i + 1, mk => zfq r i (zkQ r i mk)
theorem zg6 (r : Repo) : ∀ (i : Nat) (mk : List Bool), (zfq r i mk).length = mk.length
  | 0, mk => rfl
  | i + 1, mk => by unfold zfq; rw [zg6 r i, zg5]
def zct (r : Repo) (a : Nat) : List Bool := zfq r (a + 1) ((List.replicate r.Commits.length false).set a true)
theorem zdM (r : Repo) (a : Nat) : (zct r a).length = r.Commits.length := by unfold zct; rw [zg6]; simp
def zlD (mk : List Bool) : List Int := ((List.range mk.length).filter fun i => mk.getD i false).map Int.ofNat
def zaF (r : Repo) (a : Int) : List Int := zlD (zct r a.toNat)
theorem zgV {mk : List Bool} {i : Nat} (h : i < mk.length) : gi mk (i : Int) = some (mk.getD i false) := by
  have hx : mk[i]? = some mk[i] := List.getElem?_eq_getElem h
  rw [zaf hx]
  simp [List.getD, hx]
theorem zkR {mk : List Bool} {p : Int} {i : Nat} (h : mk.getD i false = true) : (zly mk p).getD i false = true := by
  unfold zly
  by_cases e : p.toNat = i
  · subst e
    have hl : p.toNat < mk.length := by
      rcases Nat.lt_or_ge p.toNat mk.length with h1 | h1
      · exact h1
      · rw [List.getD, List.getElem?_eq_none (by omega)] at h; simp at h
    simp [List.getD, hl]
  · simp only [List.getD, List.getElem?_set_ne e] at h ⊢
    exact h
theorem zm3 {r : Repo} (h : zac r = true) {i : Nat} (hi : i < r.Commits.length) {F : List Bool → Option (List Int)} : ∀ (j k m : Nat) (mk : List Bool), k + j = (zae r i).length → j < m → mk.length = r.Commits.length →
    zcy r (i : Int) (fun _ y27 => F y27) m (k : Int) mk = F (bif mk.getD i false then ((zae r i).drop k).foldl zly mk else mk)
  | j, k, 0, mk, _, hm, _ => by omega
  | 0, k, m + 1, mk, hk, _, hl => by
    obtain rfl : k = (zae r i).length := by omega
    have e : (r.Commits.getD i noCommit).Parents = zae r i := rfl
    simp only [zcy, jn, zjg hi, Option.bind_some, e, zai, cond_false, List.drop_length, List.foldl_nil]
    cases mk.getD i false <;> rfl
  | j + 1, k, m + 1, mk, hk, hm, hl => by
    have hlt : k < (zae r i).length := by omega
    have hx : (zae r i)[k]? = some (zae r i)[k] := List.getElem?_eq_getElem hlt
    obtain ⟨hs, hp⟩ := zaT h hi
    obtain ⟨p0, p1⟩ := hp _ (List.getElem_mem hlt)
    have e : (r.Commits.getD i noCommit).Parents = zae r i := rfl
    have hn : (((zae r i)[k].toNat : Nat) : Int) = (zae r i)[k] := by omega
    have hg : gi mk (zae r i)[k] = some (mk.getD (zae r i)[k].toNat false) := by
      rw [← hn]
      exact zgV (by omega)
    have hsi : siM mk (zae r i)[k] true = some (zly mk (zae r i)[k]) := by
      have := zft (xs := mk) (i := (zae r i)[k].toNat) (by omega) true
      rw [hn] at this
      exact this
    simp only [zcy, jn, zjg hi, Option.bind_some, e, zat hx, cond_true, zgV (show i < mk.length by omega), zaf hx, hg, hsi]
    cases hb : mk.getD i false with
    | false => rfl
    | true =>
      rw [cond_true, cond_true, zag hlt (by unfold maxi; omega), zm3 h hi j (k + 1) m _ (by omega) (by omega) (by rw [zig]; exact hl), zkR hb, cond_true, List.drop_eq_getElem_cons hlt, List.foldl_cons]
theorem zm4 {r : Repo} (h : zac r = true) {F : List Bool → Option (List Int)} : ∀ (i m : Nat) (mk : List Bool), i ≤ r.Commits.length → i < m → mk.length = r.Commits.length →
    zbJ r (fun _ y => F y) m ((i : Int) - 1) mk = F (zfq r i mk)
  | i, 0, mk, _, hm, _ => by omega
  | 0, m + 1, mk, _, _, _ => by
    simp only [zbJ]
    rw [decide_eq_false (by omega)]
    rfl
  | i + 1, m + 1, mk, hi, hm, hl => by
    have hs := (zah h).1
    have e : (((i + 1 : Nat) : Int)) - 1 = (i : Int) := by omega
    simp only [zbJ, jn, e]
    rw [decide_eq_true (by omega), cond_true]
    have hp := (zaT h (show i < r.Commits.length by omega)).1
    have h2 := zm3 h (show i < r.Commits.length by omega) (F := fun y27 => zbJ r (fun _ y => F y) m (w64 ((i : Int) - 1)) y27) (zae r i).length 0 4 mk (by omega) (by omega) hl
    refine (h2).trans ?_
    rw [ze4 (show i ≤ maxi by unfold maxi; omega)]
    refine (zm4 h i m _ (by omega) (by omega) ?_).trans rfl
    have := zg5 r i mk
    unfold zkQ at this
    rw [List.drop_zero, this]
    exact hl
theorem zkS {mk : List Bool} (hl : mk.length ≤ 1000) : ∀ (k i m : Nat) (out : List Int), i + k = mk.length → k < m → out.length ≤ i →
    zbI mk (fun y69 _ => some y69) m out (i : Int) = some (out ++ ((List.range' i k).filter fun i => mk.getD i false).map Int.ofNat)
  | k, i, 0, out, _, hm, _ => by omega
  | 0, i, m + 1, out, hi, _, _ => by
    obtain rfl : i = mk.length := by omega
    simp only [zbI, zai, cond_false]
    simp
  | k + 1, i, m + 1, out, hi, hm, ho => by
    have hlt : i < mk.length := by omega
    have hx : mk[i]? = some mk[i] := List.getElem?_eq_getElem hlt
    simp only [zbI, jn, zat hx, cond_true, zgV hlt, Option.bind_some, zag hlt (show mk.length ≤ maxi by unfold maxi; omega), ap1 (x := (i : Int)) (show out.length ≤ 1048576 by omega)]
    rw [List.range'_succ, List.filter_cons]
    cases hb : mk.getD i false with
    | true =>
      rw [cond_true, zkS hl k (i + 1) m _ (by omega) (by omega) (by simp; omega), if_pos rfl]
      simp
    | false =>
      rw [cond_false, zkS hl k (i + 1) m _ (by omega) (by omega) (by omega), if_neg (by simp)]
theorem zfk {r : Repo} (h : zac r = true) {a : Int} (h0 : 0 ≤ a) (h1 : a ≤ (r.Commits.length : Int) - 1) : zdi r a = some (zaF r a) := by
  have hs := (zah h).1
  obtain ⟨n, rfl⟩ := Int.eq_ofNat_of_zero_le h0
  have hn : n < r.Commits.length := by omega
  have hl : (List.replicate r.Commits.length false).length = r.Commits.length := by simp
  unfold zdi
  rw [zoR (by simp [lim]; omega), Option.bind_some, zgV (by rw [hl]; exact hn), Option.bind_some, zft (by rw [hl]; exact hn), Option.bind_some]
  simp only [jn, zaA]
  have e := zm4 h (F := fun y18 => zbI y18 (fun y69 _ => some y69) (y18.length + 1) ([] : List Int) 0) (n + 1) (((n : Int) + 1 - 0).toNat + 1) ((List.replicate r.Commits.length false).set n true) (by omega) (by omega) (by simp)
  rw [show (((n + 1 : Nat) : Int)) - 1 = (n : Int) by omega] at e
  refine e.trans ?_
  have hml := zdM r n
  unfold zct at hml
  have e3 := zkS (mk := zfq r (n + 1) ((List.replicate r.Commits.length false).set n true)) (by omega) r.Commits.length 0 (r.Commits.length + 1) [] (by omega) (by omega) (by simp)
  rw [hml]
  refine e3.trans ?_
  unfold zaF zlD zct
  rw [Int.toNat_natCast, hml, List.range_eq_range']
  rfl
theorem za4 {r : Repo} {a x : Int} (h : x ∈ zaF r a) : 0 ≤ x ∧ x ≤ (r.Commits.length : Int) - 1 := by
  unfold zaF zlD at h
  rw [zdM] at h
  obtain ⟨i, hi, rfl⟩ := List.mem_map.1 h
  have := List.mem_range.1 (List.mem_filter.1 hi).1
  constructor
  · exact Int.natCast_nonneg i
  · show (i : Int) ≤ _; omega
theorem zde (r : Repo) (a : Int) : (zaF r a).length ≤ r.Commits.length := by
  unfold zaF zlD
  rw [zdM, List.length_map]
  exact Nat.le_trans (List.length_filter_le _ _) (by simp)
def zeS (l : List Int) (n : Int) : Bool := l.any fun x => x == n
theorem zf4 {l : List Int} (hl : l.length ≤ 1000000) (n : Int) : zdS l n = some (zeS l n) := by
  unfold zdS zeS
  simp only [jn, zaA]
  rw [zgm (p := fun x : Int => x == n) (xs := l) (r := fun _ => some true) (Z := some false) (f := fun m k => zcz l n _ m false k) (fun m i x hx => by
    simp only [zcz, zat hx, zaf hx, cond_true, Option.bind_some, zag (zaP hx) (show l.length ≤ maxi by unfold maxi; omega)]) (fun m => by simp only [zcz, zai, cond_false]) (by omega)]
  cases hf : l.find? (fun x => x == n) with
  | some x =>
    have : l.any (fun x => x == n) = true := List.any_eq_true.2 ⟨x, List.mem_of_find?_eq_some hf, by simpa using List.find?_some hf⟩
    rw [this]
  | none =>
    have : l.any (fun x => x == n) = false := by
      rw [List.any_eq_false]
      intro x hx
      have := List.find?_eq_none.1 hf x hx
      simpa using this
    rw [this]
def zkT (r : Repo) (l : List Int) (i : Nat) : Bool := zfJ (fun k => ((k : Int) == (i : Int)) || !zeS (zaF r (l.getD k 0)) (l.getD i 0)) 0 l.length
def zkd (p : Nat → Bool) (l : List Int) : List Int := ((List.range l.length).filter p).map fun i => l.getD i 0
def zeq (r : Repo) (a b : Int) : List Int := (zaF r a).filter (zeS (zaF r b))
def za7 (r : Repo) (a b : Int) : List Int := zkd (zkT r (zeq r a b)) (zeq r a b)
theorem zgv {l : List Int} {i : Nat} (h : i < l.length) : gi l (i : Int) = some (l.getD i 0) := by
  rw [zdy (List.getElem?_eq_getElem h)]
  exact zaf (List.getElem?_eq_getElem h)
theorem zjh {r : Repo} (h : zac r = true) {l : List Int} (hl : l.length ≤ 1000) (hm : ∀ x ∈ l, 0 ≤ x ∧ x ≤ (r.Commits.length : Int) - 1) {i : Nat} (hi : i < l.length) {F : Bool → Option (List Int)} : ∀ (n k m : Nat) (b : Bool), k + n = l.length → n < m →
    za8 r l (i : Int) (fun y _ => F y) m b (k : Int) = F (b && zfJ (fun k => ((k : Int) == (i : Int)) || !zeS (zaF r (l.getD k 0)) (l.getD i 0)) k n)
  | n, k, 0, b, _, hm' => by omega
  | 0, k, m + 1, b, hk, _ => by
    obtain rfl : k = l.length := by omega
    simp only [za8, zai, cond_false, zfJ, Bool.and_true]
  | n + 1, k, m + 1, b, hk, hm' => by
    have hlt : k < l.length := by omega
    have hx : l[k]? = some l[k] := List.getElem?_eq_getElem hlt
    have hs := (zah h).1
    obtain ⟨q0, q1⟩ := hm _ (List.getElem_mem hlt)
    have hal := zde r l[k]
    have ih := fun b => zjh h hl hm hi (F := F) n (k + 1) m b (by omega) (by omega)
    simp only [za8, zat hx, cond_true, zag hlt (show l.length ≤ maxi by unfold maxi; omega), zaf hx, zgv hi, Option.bind_some, zfk h q0 q1, zf4 (show (zaF r l[k]).length ≤ 1000000 by omega), ih, zfJ, zdy hx]
    cases b <;> cases ((k : Int) == (i : Int)) <;> simp
theorem zhn {r : Repo} (h : zac r = true) {l : List Int} (hl : l.length ≤ 1000) (hm : ∀ x ∈ l, 0 ≤ x ∧ x ≤ (r.Commits.length : Int) - 1) : ∀ (k i m : Nat) (out : List Int), i + k = l.length → k < m → out.length ≤ i →
    zaH r l (fun y _ => some y) m out (i : Int) = some (out ++ ((List.range' i k).filter (zkT r l)).map fun i => l.getD i 0)
  | k, i, 0, out, _, hm', _ => by omega
  | 0, i, m + 1, out, hi, _, _ => by
    obtain rfl : i = l.length := by omega
    simp only [zaH, zai, cond_false]
    simp
  | k + 1, i, m + 1, out, hi, hm', ho => by
    have hlt : i < l.length := by omega
    have hx : l[i]? = some l[i] := List.getElem?_eq_getElem hlt
    have h3 := zjh h hl hm hlt (F := fun y104 => bif y104 then ((gi l (i : Int)).bind fun u151 => (apM out [u151]).bind fun q160 => zaH r l (fun y _ => some y) m q160 (w64 ((i : Int) + 1))) else zaH r l (fun y _ => some y) m out (w64 ((i : Int) + 1))) l.length 0 (l.length + 1) true (by omega) (by omega)
    simp only [zaH, jn, zat hx, cond_true, zaA]
    refine h3.trans ?_
    rw [Bool.true_and, List.range'_succ, List.filter_cons, zag hlt (show l.length ≤ maxi by unfold maxi; omega)]
    show (bif zkT r l i then _ else _) = _
    cases hb : zkT r l i with
    | true =>
      rw [cond_true, zaf hx, Option.bind_some, ap1 (show out.length ≤ 1048576 by omega), Option.bind_some, zhn h hl hm k (i + 1) m _ (by omega) (by omega) (by simp; omega), if_pos rfl]
      simp [hx]
    | false =>
      rw [cond_false, zhn h hl hm k (i + 1) m _ (by omega) (by omega) (by omega), if_neg (by simp)]
theorem zjJ {r : Repo} (h : zac r = true) {a b : Int} (ha : 0 ≤ a) (ha' : a ≤ (r.Commits.length : Int) - 1) (hb : 0 ≤ b) (hb' : b ≤ (r.Commits.length : Int) - 1) : zdX r a b = some (za7 r a b) := by
  have hs := (zah h).1
  have la := zde r a
  have lb := zde r b
  unfold zdX
  rw [zfk h ha ha', Option.bind_some, zfk h hb hb', Option.bind_some]
  simp only [jn, zaA]
  have hl : (zeq r a b).length ≤ 1000 := Nat.le_trans (List.length_filter_le _ _) (by omega)
  have hm : ∀ x ∈ zeq r a b, 0 ≤ x ∧ x ≤ (r.Commits.length : Int) - 1 := fun x hx => za4 (List.mem_filter.1 hx).1
  rw [zev (xs := zaF r a) (p := zeS (zaF r b)) (g := fun x : Int => x) (Z := fun acc => zaH r acc (fun y _ => some y) (acc.length + 1) ([] : List Int) 0) (f := fun m acc i => zbz (zaF r a) (zaF r b) _ m acc i) (fun m i x acc hx hacc => by
    have hi := zaP hx
    simp only [zbz, jn, zat hx, zaf hx, cond_true, Option.bind_some, zag hi (show (zaF r a).length ≤ maxi by unfold maxi; omega), zf4 (show (zaF r b).length ≤ 1000000 by omega), ap1 (show acc.length ≤ 1048576 by omega)]
    cases zeS (zaF r b) x <;> rfl) (fun m acc => by simp only [zbz, zai, cond_false]) (by omega)]
  have e : ((zaF r a).filter (zeS (zaF r b))).map (fun x => x) = zeq r a b := by simp [zeq]
  rw [e]
  have := zhn h hl hm (zeq r a b).length 0 ((zeq r a b).length + 1) [] (by omega) (by omega) (by simp)
  refine this.trans ?_
  unfold za7 zkd
  rw [List.range_eq_range']
  rfl
theorem zji {r : Repo} {a b x : Int} (h : x ∈ za7 r a b) : 0 ≤ x ∧ x ≤ (r.Commits.length : Int) - 1 := by
  unfold za7 zkd at h
  obtain ⟨i, hi, rfl⟩ := List.mem_map.1 h
  have hr := List.mem_range.1 (List.mem_filter.1 hi).1
  rw [zdy (List.getElem?_eq_getElem hr)]
  exact za4 (List.mem_filter.1 (List.getElem_mem hr)).1
theorem zkU (r : Repo) (a b : Int) : (za7 r a b).length ≤ r.Commits.length := by
  unfold za7 zkd
  rw [List.length_map]
  refine Nat.le_trans (List.length_filter_le _ _) ?_
  rw [List.length_range]
  exact Nat.le_trans (List.length_filter_le _ _) (zde r a)
def ziL (s : List Str) (p : Part) : Option (List Str) := bif p.Clash then none else some (s ++ p.Lines)
def zeT (ps : List Part) : List Str × Bool := match ps.foldlM ziL [] with
  | some s => okT s
  | none => ([], false)
theorem zkV {i : Nat} {s s' : List Str} {p : Part} (hp : p.Lines.length ≤ 22000) (hpl : ∀ x ∈ p.Lines, zdk x = true) (hI : zpL i s) (hst : ziL s p = some s') : zpL (i + 1) s' := by
  unfold ziL at hst
  cases hc : p.Clash with
  | true => rw [hc] at hst; cases hst
  | false =>
    rw [hc, cond_false] at hst
    cases hst
    refine ⟨by rw [List.length_append]; have := hI.1; omega, fun x hx => ?_⟩
    rcases List.mem_append.1 hx with h1 | h1
    · exact hI.2 x h1
    · exact hpl x h1
theorem zkW {o a b : List Str} (hto : zao o = true) (hta : zao a = true) (htb : zao b = true) : zeA (zbq o a b) = some (zeT (zbq o a b)) := by
  obtain ⟨hlen, hparts⟩ := zi5 hto hta htb
  unfold zeA zeT
  simp only [jn, zaA]
  obtain ⟨h1, h2⟩ := zjC (xs := zbq o a b) (step := ziL) (r0 := some (([] : List Str), false)) (Inv := zpL) (s0 := []) (Z := fun s => (zcW s).bind fun z30 => bif (!z30) then (some (([] : List Str), false)) else (some (s, true))) (f := fun m s i => zb0 (zbq o a b) (fun _ _ y7 _ => (zcW y7).bind fun z30 => bif (!z30) then (some (([] : List Str), false)) else (some (y7, true))) m [] false s i) (fun m i p s hx hI => by
    have hi := zaP hx
    obtain ⟨p1, p2, _⟩ := hparts p (List.mem_of_getElem? hx)
    refine ⟨?_, fun s' hst => zkV p1 p2 hI hst⟩
    have hs := hI.1
    simp only [zb0, zat hx, zaf hx, cond_true, Option.bind_some, zag hi (show (zbq o a b).length ≤ maxi by unfold maxi; omega), apT (show s.length ≤ 1000000 by omega) (show p.Lines.length ≤ 1000000 by omega)]
    unfold ziL
    cases p.Clash <;> rfl) (fun m s hI => by simp only [zb0, zai, cond_false]) (m := (zbq o a b).length + 1) (by omega) ⟨by simp, by simp⟩
  refine h1.trans ?_
  cases hf : (zbq o a b).foldlM ziL [] with
  | none => rfl
  | some s =>
    have hI := h2 s hf
    have hs := hI.1
    show (zcW s).bind _ = some (okT s)
    rw [ziz (zc9 (by omega) hI.2), Option.bind_some]
    unfold okT
    cases zao s <;> rfl
theorem zkX {ps : List Part} : (zeT ps).2 = true → zao (zeT ps).1 = true := by
  unfold zeT okT
  cases ps.foldlM ziL [] with
  | none => intro h; cases h
  | some s =>
    show (bif zao s then (s, true) else (([] : List Str), false)).2 = true → zao (bif zao s then (s, true) else (([] : List Str), false)).1 = true
    cases ht : zao s with
    | true => intro _; exact ht
    | false => intro h; cases h
def getT (t : List File) (p : Str) : List Str × Bool := match t.find? (fun f => f.Path == p) with
  | some f => (f.Text, true)
  | none => ([], false)
theorem zho {t : List File} (h : TB t) (p : Str) : zej t p = some (getT t p) := by
  have hm := h.maxi
  unfold zej getT
  simp only [jn, zaA]
  rw [zgm (p := fun f : File => f.Path == p) (xs := t) (r := fun f => some (f.Text, true)) (Z := some (([] : List Str), false)) (f := fun m k => zcB t p _ m [] false k) (fun m i x hx => by
    simp only [zcB, zat hx, zaf hx, cond_true, Option.bind_some, zag (zaP hx) hm]) (fun m => by simp only [zcB, zai, cond_false]) (by omega)]
  cases t.find? (fun f => f.Path == p) <;> rfl
theorem zjK {t : List File} (h : TB t) (p : Str) : (getT t p).1.length ≤ 1048576 ∧ Bk.fit (getT t p).1 := by
  unfold getT
  cases hf : t.find? (fun f => f.Path == p) with
  | some f =>
    have := h.2 f (List.mem_of_find?_eq_some hf)
    exact ⟨this.len, this.text⟩
  | none => exact ⟨by simp, by simp [maxi], by simp⟩
def za3 (t : List File) : Prop := ∀ f ∈ t, zao f.Text = true
theorem zda {t : List File} (h : za3 t) (p : Str) : zao (getT t p).1 = true := by
  unfold getT
  cases hf : t.find? (fun f => f.Path == p) with
  | some f => exact h f (List.mem_of_find?_eq_some hf)
  | none => rfl
def zfX (a b : List Str × Bool) : Bool := (a.2 == b.2) && (bif a.2 then a.1 == b.1 else true)
theorem zhN {a b : List Str × Bool} (h : a.1.length ≤ 1048576) : zdB a.1 a.2 b.1 b.2 = some (zfX a b) := by
  unfold zdB zfX
  simp only [jn, zfc (zaG h), Option.bind_some]
  cases a.2 <;> cases b.2 <;> rfl
def oneF (o a b : List File) (p : Str) : List Str × Bool × Int :=
  let zo := getT o p; let za := getT a p; let zb := getT b p
  bif zfX za zo || zfX za zb then (zb.1, zb.2, 0)
  else bif zfX zb zo then (za.1, za.2, 0)
  else bif !za.2 || !zb.2 then (zo.1, zo.2, 1)
  else bif !zo.2 then ([], false, 2)
  else bif (zeT (zbq zo.1 za.1 zb.1)).2 then ((zeT (zbq zo.1 za.1 zb.1)).1, true, 0) else (zo.1, true, 3)
theorem zmn {o a b : List File} (ho : TB o) (ha : TB a) (hb : TB b) (to : za3 o) (ta : za3 a) (tb : za3 b) (p : Str) : ze9 o a b p = some (oneF o a b p) := by
  have eo := zda to p
  have ea := zda ta p
  have eb := zda tb p
  have lo := zaj eo
  have la := zaj ea
  have lb := zaj eb
  unfold ze9 oneF
  simp only [jn, zho ho, zho ha, zho hb, Option.bind_some, zhN (a := getT a p) (zjK ha p).1, zhN (a := getT b p) (zjK hb p).1, znZ (show (getT o p).1.length ≤ 1000 by omega) (show (getT a p).1.length ≤ 1000 by omega) (show (getT b p).1.length ≤ 1000 by omega), zkW eo ea eb]
  cases zfX (getT a p) (getT o p) <;> cases zfX (getT a p) (getT b p) <;> cases zfX (getT b p) (getT o p) <;> cases (getT a p).2 <;> cases (getT b p).2 <;> cases (getT o p).2 <;> cases (zeT (zbq (getT o p).1 (getT a p).1 (getT b p).1)).2 <;> rfl
theorem zhO {o a b : List File} (to : za3 o) (ta : za3 a) (tb : za3 b) (p : Str) : zao (oneF o a b p).1 = true := by
  have eo := zda to p
  have ea := zda ta p
  have eb := zda tb p
  unfold oneF
  simp only
  cases zfX (getT a p) (getT o p) || zfX (getT a p) (getT b p) with
  | true => exact eb
  | false =>
    cases zfX (getT b p) (getT o p) with
    | true => exact ea
    | false =>
      cases !(getT a p).2 || !(getT b p).2 with
      | true => exact eo
      | false =>
        cases !(getT o p).2 with
        | true => rfl
        | false =>
          cases hl : (zeT (zbq (getT o p).1 (getT a p).1 (getT b p).1)).2 with
          | true => exact zkX hl
          | false => exact eo
def zdN (o a b : List File) : List Str := (b.map (·.Path)).foldl zfM ((a.map (·.Path)).foldl zfM ((o.map (·.Path)).foldl zfM []))
theorem zeW : ∀ (ps : List Str) (l : List Str), Asd l → Asd (ps.foldl zfM l)
  | [], l, h => h
  | p :: ps, l, h => zeW ps _ (zep _ _)
theorem zdO : ∀ (ps : List Str) (l : List Str), (ps.foldl zfM l).length ≤ l.length + ps.length
  | [], l => by simp
  | p :: ps, l => by
    have h1 := zdO ps (zfM l p)
    have h2 := zfG l p
    simp only [List.foldl_cons, List.length_cons]
    omega
theorem zfl : ∀ (ps : List Str) (l : List Str) (x : Str), x ∈ ps.foldl zfM l ↔ x ∈ l ∨ x ∈ ps
  | [], l, x => by simp
  | p :: ps, l, x => by
    rw [List.foldl_cons, zfl ps, insS_mem, List.mem_cons]
    constructor
    · rintro ((h | h) | h)
      · exact .inl h
      · exact .inr (.inl h)
      · exact .inr (.inr h)
    · rintro (h | h | h)
      · exact .inl (.inl h)
      · exact .inl (.inr h)
      · exact .inr h
theorem zeK {t : List File} (h : TB t) (ht : t.length ≤ 1000) {f : Nat → List Str → Int → Option (List Str)} {Z : List Str → Option (List Str)}
    (hs : ∀ m (i : Nat) x acc, t[i]? = some x → f (m + 1) acc (i : Int) = (zdj acc x.Path).bind fun z => f m z (w64 ((i : Int) + 1))) (he : ∀ m acc, f (m + 1) acc (t.length : Int) = Z acc) : ∀ (k i m : Nat) (acc : List Str), i + k = t.length → k < m → Asd acc → acc.length ≤ 10000 + i →
    f m acc (i : Int) = Z (((t.drop i).map (·.Path)).foldl zfM acc)
  | k, i, 0, acc, _, hm, _, _ => by omega
  | 0, i, m + 1, acc, hi, _, _, _ => by
    obtain rfl : i = t.length := by omega
    rw [he, List.drop_length]; rfl
  | k + 1, i, m + 1, acc, hi, hm, ha, hl => by
    have hlt : i < t.length := by omega
    have hx : t[i]? = some t[i] := List.getElem?_eq_getElem hlt
    have hil := zfG acc t[i].Path
    rw [hs m i _ acc hx, zmh (by omega) ha, Option.bind_some, zag hlt h.maxi, zeK h ht hs he k (i + 1) m _ (by omega) (by omega) (zep _ _) (by omega), List.drop_eq_getElem_cons hlt]
    rfl
theorem zjL {o a b : List File} (ho : TB o) (ha : TB a) (hb : TB b) (so : o.length ≤ 100) (sa : a.length ≤ 100) (sb : b.length ≤ 100) : zdY o a b = some (zdN o a b) := by
  unfold zdY zdN
  simp only [jn, zaA]
  have l1 := zdO (o.map (·.Path)) []
  have l2 := zdO (a.map (·.Path)) ((o.map (·.Path)).foldl zfM [])
  have a0 : Asd ([] : List Str) := List.Pairwise.nil
  have a1 := zeW (o.map (·.Path)) [] a0
  have a2 := zeW (a.map (·.Path)) _ a1
  simp only [List.length_map, List.length_nil] at l1 l2
  have e3 := fun acc (h1 : Asd acc) (h2 : acc.length ≤ 10000) => zeK hb (by omega) (f := fun m acc i => zaz b (fun y40 _ => some y40) m acc i) (Z := fun acc => some acc) (fun m i x acc hx => by simp only [zaz, zat hx, zaf hx, cond_true, Option.bind_some]) (fun m acc => by simp only [zaz, zai, cond_false]) b.length 0 (b.length + 1) acc (by omega) (by omega) h1 (by omega)
  have e2 := fun acc (h1 : Asd acc) (h2 : acc.length ≤ 10000) => zeK ha (by omega) (f := fun m acc i => zaW a (fun y23 _ => zaz b (fun y40 _ => some y40) (b.length + 1) y23 0) m acc i) (Z := fun acc => zaz b (fun y40 _ => some y40) (b.length + 1) acc 0) (fun m i x acc hx => by simp only [zaW, zat hx, zaf hx, cond_true, Option.bind_some]) (fun m acc => by simp only [zaW, zai, cond_false]) a.length 0 (a.length + 1) acc (by omega) (by omega) h1 (by omega)
  have e1 := fun acc (h1 : Asd acc) (h2 : acc.length ≤ 10000) => zeK ho (by omega) (f := fun m acc i => zbA o (fun y6 _ => zaW a (fun y23 _ => zaz b (fun y40 _ => some y40) (b.length + 1) y23 0) (a.length + 1) y6 0) m acc i) (Z := fun acc => zaW a (fun y23 _ => zaz b (fun y40 _ => some y40) (b.length + 1) y23 0) (a.length + 1) acc 0) (fun m i x acc hx => by simp only [zbA, zat hx, zaf hx, cond_true, Option.bind_some]) (fun m acc => by simp only [zbA, zai, cond_false]) o.length 0 (o.length + 1) acc (by omega) (by omega) h1 (by omega)
  refine (e1 [] a0 (by simp)).trans ?_
  rw [List.drop_zero]
  refine (e2 _ a1 (by omega)).trans ?_
  rw [List.drop_zero]
  refine (e3 _ a2 (by omega)).trans ?_
  rw [List.drop_zero]
theorem zg7 (o a b : List File) : (zdN o a b).length ≤ o.length + a.length + b.length := by
  unfold zdN
  have l1 := zdO (o.map (·.Path)) []
  have l2 := zdO (a.map (·.Path)) ((o.map (·.Path)).foldl zfM [])
  have l3 := zdO (b.map (·.Path)) ((a.map (·.Path)).foldl zfM ((o.map (·.Path)).foldl zfM []))
  simp only [List.length_map, List.length_nil] at l1 l2 l3
  omega
theorem pathsF_mem {o a b : List File} {x : Str} : x ∈ zdN o a b ↔ (∃ f ∈ o, f.Path = x) ∨ (∃ f ∈ a, f.Path = x) ∨ (∃ f ∈ b, f.Path = x) := by
  unfold zdN
  rw [zfl, zfl, zfl]
  simp only [List.mem_map, List.not_mem_nil, false_or]
  constructor
  · rintro ((h | h) | h)
    · exact .inl h
    · exact .inr (.inl h)
    · exact .inr (.inr h)
  · rintro (h | h | h)
    · exact .inl (.inl h)
    · exact .inl (.inr h)
    · exact .inr h
def ziM (o a b : List File) (p : Str) : Option File := bif (oneF o a b p).2.1 then some ⟨p, (oneF o a b p).1⟩ else none
def zhP (o a b : List File) (p : Str) : Option Clash := bif decide (0 < (oneF o a b p).2.2) then some ⟨p, (oneF o a b p).2.2⟩ else none
def zfr (o a b : List File) : List File := (zdN o a b).filterMap (ziM o a b)
def zf0 (o a b : List File) : List Clash := (zdN o a b).filterMap (zhP o a b)
theorem zhQ {o a b : List File} (ho : TB o) (ha : TB a) (hb : TB b) (to : za3 o) (ta : za3 a) (tb : za3 b) {ps : List Str} (hp : ps.length ≤ 1000) : ∀ (k i m : Nat) (fs : List File) (cs : List Clash), i + k = ps.length → k < m → fs.length ≤ i → cs.length ≤ i →
    zc6 o a b ps (fun y16 y19 _ => some (y16, y19)) m fs cs (i : Int) = some (fs ++ (ps.drop i).filterMap (ziM o a b), cs ++ (ps.drop i).filterMap (zhP o a b))
  | k, i, 0, fs, cs, _, hm, _, _ => by omega
  | 0, i, m + 1, fs, cs, hi, _, _, _ => by
    obtain rfl : i = ps.length := by omega
    simp only [zc6, zai, cond_false, List.drop_length]
    simp
  | k + 1, i, m + 1, fs, cs, hi, hm, hf, hc => by
    have hlt : i < ps.length := by omega
    have hx : ps[i]? = some ps[i] := List.getElem?_eq_getElem hlt
    have ih := fun fs cs h1 h2 => zhQ ho ha hb to ta tb hp k (i + 1) m fs cs (by omega) (by omega) h1 h2
    have ht := zaj (zhO to ta tb ps[i])
    simp only [zc6, jn, zat hx, zaf hx, cond_true, Option.bind_some, zag hlt (show ps.length ≤ maxi by unfold maxi; omega), zmn ho ha hb to ta tb, apN (show (oneF o a b ps[i]).1.length ≤ 1048576 by omega), ap1 (x := (⟨ps[i], (oneF o a b ps[i]).1⟩ : File)) (show fs.length ≤ 1048576 by omega), ap1 (x := (⟨ps[i], (oneF o a b ps[i]).2.2⟩ : Clash)) (show cs.length ≤ 1048576 by omega)]
    rw [List.drop_eq_getElem_cons hlt, List.filterMap_cons, List.filterMap_cons]
    unfold ziM zhP at ih ⊢
    cases (oneF o a b ps[i]).2.1 <;> cases decide (0 < (oneF o a b ps[i]).2.2) <;> simp only [cond_true, cond_false]
    · rw [ih _ _ (by omega) (by omega)]
    · rw [ih _ _ (by omega) (by simp; omega)]; simp
    · rw [ih _ _ (by simp; omega) (by omega)]; simp
    · rw [ih _ _ (by simp; omega) (by simp; omega)]; simp
theorem zn5 {o a b : List File} (ho : TB o) (ha : TB a) (hb : TB b) (to : za3 o) (ta : za3 a) (tb : za3 b) (so : o.length ≤ 100) (sa : a.length ≤ 100) (sb : b.length ≤ 100) : zfP o a b = some (zfr o a b, zf0 o a b) := by
  have hl := zg7 o a b
  unfold zfP
  rw [zjL ho ha hb so sa sb, Option.bind_some]
  simp only [jn, zaA]
  have := zhQ ho ha hb to ta tb (ps := zdN o a b) (by omega) (zdN o a b).length 0 ((zdN o a b).length + 1) [] [] (by omega) (by omega) (by simp) (by simp)
  refine this.trans ?_
  simp [zfr, zf0]
theorem zhR {o a b : List File} (ho : TB o) (ha : TB a) (hb : TB b) (to : za3 o) (ta : za3 a) (tb : za3 b) (so : o.length ≤ 100) (sa : a.length ≤ 100) (sb : b.length ≤ 100) : TB (zfr o a b) := by
  have hl := zg7 o a b
  refine ⟨Nat.le_trans (List.length_filterMap_le _ _) (by omega), fun f hf => ?_⟩
  obtain ⟨p, hp, he⟩ := List.mem_filterMap.1 hf
  unfold ziM at he
  cases h2 : (oneF o a b p).2.1 with
  | false => rw [h2] at he; cases he
  | true =>
    rw [h2, cond_true] at he
    cases he
    have ht := zhO to ta tb p
    have hlen := zaj ht
    refine ⟨?_, by show (oneF o a b p).1.length ≤ _; omega, zc9 (s := (oneF o a b p).1) (by omega) (zaO ht)⟩
    rcases pathsF_mem.1 hp with ⟨g, hg, e⟩ | ⟨g, hg, e⟩ | ⟨g, hg, e⟩
    · rw [← e]; exact (ho.2 g hg).path
    · rw [← e]; exact (ha.2 g hg).path
    · rw [← e]; exact (hb.2 g hg).path
def zd7 (o a b : List File) : List File × List Clash := bif ((zf0 o a b).length : Int) == 0 && !zay (zfr o a b) then (o, [⟨[], 4⟩]) else (zfr o a b, zf0 o a b)
theorem zhS {o a b : List File} (ho : TB o) (ha : TB a) (hb : TB b) (to : za3 o) (ta : za3 a) (tb : za3 b) (so : o.length ≤ 100) (sa : a.length ≤ 100) (sb : b.length ≤ 100) : zea o a b = some (zd7 o a b) := by
  unfold zea zd7
  simp only [jn, zn5 ho ha hb to ta tb so sa sb, Option.bind_some, ze1 (zhR ho ha hb to ta tb so sa sb), zdK ho]
  cases (((zf0 o a b).length : Int) == 0) <;> cases zay (zfr o a b) <;> rfl
theorem zih {o a b : List File} (ho : TB o) (ha : TB a) (hb : TB b) (to : za3 o) (ta : za3 a) (tb : za3 b) (so : o.length ≤ 100) (sa : a.length ≤ 100) (sb : b.length ≤ 100) : TB (zd7 o a b).1 := by
  unfold zd7
  cases (((zf0 o a b).length : Int) == 0 && !zay (zfr o a b))
  · exact zhR ho ha hb to ta tb so sa sb
  · exact ho
theorem zax {t : List File} (h : zay t = true) : za3 t := by
  intro f hf
  obtain ⟨i, hi⟩ := List.mem_iff_getElem?.1 hf
  unfold zay at h
  simp only [Bool.and_eq_true] at h
  have := zau.1 h.2 i (Nat.zero_le _) (by have := zaP hi; omega)
  unfold zgH zgG at this
  rw [zcN hi] at this
  simp only [Bool.and_eq_true] at this
  exact this.1.2.1
theorem zcg {t : List File} (h : zay t = true) {f : File} (hf : f ∈ t) : za0 f.Path = true := by
  obtain ⟨i, hi⟩ := List.mem_iff_getElem?.1 hf
  unfold zay at h
  simp only [Bool.and_eq_true] at h
  have := zau.1 h.2 i (Nat.zero_le _) (by have := zaP hi; omega)
  unfold zgH zgG at this
  rw [zcN hi] at this
  simp only [Bool.and_eq_true] at this
  exact this.1.1
theorem zhp (c : UInt8) : ∀ (r w : Str), w.length + r.length + 1 = zbs (fun p => p.length + 1) (curS c w r)
  | [], w => by simp [curS, zbs]
  | x :: r, w => by
    unfold curS
    cases x == c with
    | true =>
      rw [cond_true]
      have := zhp c r []
      simp only [zbs, List.length_nil, List.length_cons] at this ⊢
      omega
    | false =>
      rw [cond_false]
      have := zhp c r (w ++ [x])
      simp only [List.length_append, List.length_cons, List.length_nil] at this ⊢
      omega
theorem zm5 {c : Nat} : ∀ {l : List Str}, (∀ p ∈ l, p.length + 1 ≤ c) → zbs (fun p => p.length + 1) l ≤ c * l.length
  | [], _ => by simp [zbs]
  | x :: l, h => by
    have h1 := h x (by simp)
    have h2 := zm5 (c := c) (l := l) (fun p hp => h p (List.mem_cons_of_mem _ hp))
    simp only [zbs, List.length_cons, Nat.mul_add, Nat.mul_one]
    omega
theorem zcT {s : Str} (h : zaM s = true) : s.length ≤ 6 := by
  unfold zaM at h
  simp only [Bool.and_eq_true, decide_eq_true_eq] at h
  omega
theorem zdn {s : Str} (h : za0 s = true) : s.length ≤ 20 := by
  unfold za0 at h
  simp only [Bool.and_eq_true, decide_eq_true_eq, List.all_eq_true] at h
  have h1 := zhp 47 s []
  have h2 := zm5 (c := 7) (l := curS 47 [] s) (fun p hp => by have := zcT (h.2 p hp); omega)
  simp only [List.length_nil] at h1
  omega
theorem zkY {d p : Str} (h : zbe d p = true) : d.length + 1 ≤ p.length := by
  unfold zbe at h
  have := (List.isPrefixOf_iff_prefix.1 h).length_le
  simpa using this
def zeU (p to : Str) (acc : List File) (g : File) : List File := bif !zmZ p g then putF ⟨to ++ g.Path.drop p.length, g.Text⟩ false acc else acc
def zjM (t : List File) (p to : Str) : List File × Bool :=
  bif zay t then (bif ((((dropF p t).length : Int)) == (t.length : Int)) || !za0 to then (t, false) else (bif !zay (t.foldl (zeU p to) (dropF p t)) || (((t.foldl (zeU p to) (dropF p t)).length : Int) != (t.length : Int)) then (t, false) else (t.foldl (zeU p to) (dropF p t), true))) else ([], false)
theorem zkZ {p to : Str} {acc : List File} {g : File} (hg : FB g) (hp : g.Path.length ≤ 20) (ht : to.length ≤ 20) (ha : TB acc) (hl : acc.length ≤ 1000) : TB (zeU p to acc g) ∧ (zeU p to acc g).length ≤ acc.length + 1 := by
  unfold zeU
  cases !zmZ p g
  · exact ⟨ha, by simp⟩
  · refine ⟨ha.putF (by omega) ⟨?_, hg.len, hg.text⟩, ?_⟩
    · simp only [List.length_append, List.length_drop]; omega
    · have := zgL ⟨to ++ g.Path.drop p.length, g.Text⟩ acc false
      simp only [cond_false, cond_true] at this ⊢
      omega
theorem ziN {t : List File} (h : TB t) (hs : t.length ≤ 8) (hp : ∀ f ∈ t, f.Path.length ≤ 20) {p to : Str} (ht : to.length ≤ 20) {K : List File → Int → Option (List File × Bool)} : ∀ (k i m : Nat) (acc : List File), i + k = t.length → k < m → TB acc → acc.length ≤ 100 + i →
    zaL t p to K m acc (i : Int) = K ((t.drop i).foldl (zeU p to) acc) (t.length : Int) ∧ TB ((t.drop i).foldl (zeU p to) acc)
  | k, i, 0, acc, _, hm, _, _ => by omega
  | 0, i, m + 1, acc, hi, _, ha, _ => by
    obtain rfl : i = t.length := by omega
    simp only [zaL, zai, cond_false, List.drop_length]
    exact ⟨rfl, ha⟩
  | k + 1, i, m + 1, acc, hi, hm, ha, hl => by
    have hlt : i < t.length := by omega
    have hx : t[i]? = some t[i] := List.getElem?_eq_getElem hlt
    have hm' := List.getElem_mem hlt
    have hg := h.at_ hx
    have hpl := hp _ hm'
    obtain ⟨i1, i2⟩ := zkZ (p := p) (to := to) hg hpl ht ha (by omega)
    have ih := ziN h hs hp (p := p) (to := to) ht (K := K) k (i + 1) m (zeU p to acc t[i]) (by omega) (by omega) i1 (by omega)
    rw [List.drop_eq_getElem_cons hlt, List.foldl_cons]
    refine ⟨?_, ih.2⟩
    rw [← ih.1]
    simp only [zaL, jn, zat hx, zaf hx, cond_true, Option.bind_some, zag hlt h.maxi, ziH hg.path]
    unfold zeU zmZ
    have hrun : p.length ≤ t[i].Path.length → ((slM t[i].Path (p.length : Int) (t[i].Path.length : Int)).bind fun q67 => (saM to q67).bind fun q69 => (zdR acc ⟨q69, t[i].Text⟩).bind fun z77 => zaL t p to K m z77 ((i + 1 : Nat) : Int)) = zaL t p to K m (putF ⟨to ++ t[i].Path.drop p.length, t[i].Text⟩ false acc) ((i + 1 : Nat) : Int) := fun hle => by
      have hsa : saM to (t[i].Path.drop p.length) = some (to ++ t[i].Path.drop p.length) := by
        unfold saM
        rw [if_pos]
        simp only [List.length_drop, lim]
        omega
      rw [zeY hle, Option.bind_some, hsa, Option.bind_some, zjf (g := ⟨to ++ t[i].Path.drop p.length, t[i].Text⟩) ha (by omega) ⟨by simp only [List.length_append, List.length_drop]; omega, hg.len, hg.text⟩, Option.bind_some]
    cases he : t[i].Path == p with
    | true =>
      have e : t[i].Path = p := by simpa using he
      have e2 : (t[i].Path != p) = false := by rw [bne, he]; rfl
      rw [e2]
      exact hrun (by rw [e]; exact Nat.le_refl _)
    | false =>
      have e2 : (t[i].Path != p) = true := by rw [bne, he]; rfl
      rw [e2]
      cases hb : zbe p t[i].Path with
      | false => rfl
      | true => exact hrun (by have := zkY hb; omega)
theorem zhT {t : List File} (h : TB t) (p to : Str) (hto : to.length ≤ 1048576) : zcx t p to = some (zjM t p to) := by
  unfold zcx zjM
  rw [ze1 h, Option.bind_some]
  cases htr : zay t with
  | false => rfl
  | true =>
    have hs := za2 htr
    rw [Bool.not_true, cond_false, cond_true, zdK h, Option.bind_some, zhK h, Option.bind_some]
    simp only [jn, zaA, zfg hto, Option.bind_some]
    cases (((dropF p t).length : Int) == (t.length : Int)) with
    | true => rfl
    | false =>
      cases hpt : za0 to with
      | false => rfl
      | true =>
        obtain ⟨e1, e2⟩ := ziN h hs (fun f hf => zdn (zcg htr hf)) (p := p) (zdn hpt) (K := fun y39 _ => (zcp y39).bind fun z115 => bif (!z115) then (some (t, false)) else (bif ((y39.length : Int) != (t.length : Int)) then (some (t, false)) else (some (y39, true)))) t.length 0 (t.length + 1) (dropF p t) (by omega) (by omega) (h.dropF p) (by have := List.length_filter_le (zmZ p) t; unfold dropF; omega)
        rw [List.drop_zero] at e1 e2
        simp only [Bool.false_or, Bool.not_true, cond_false, cond_true]
        refine e1.trans ?_
        show (zcp _).bind _ = _
        rw [ze1 e2, Option.bind_some]
        cases zay (t.foldl (zeU p to) (dropF p t)) <;> cases (((t.foldl (zeU p to) (dropF p t)).length : Int) != (t.length : Int)) <;> rfl
structure Gd (q : Prop) (r : Repo) : Prop where
  rb : RpB r
  ok : zac r = true
  hd : q → r.Commits ≠ [] → r.Heads ≠ []
abbrev Good : Repo → Prop := Gd True
variable {q : Prop}
def zal (r : Repo) (i : Nat) : List File := (r.Commits.getD i noCommit).Tree
theorem Gd.tree {r : Repo} (h : Gd q r) {i : Nat} (hi : i < r.Commits.length) : TB (zal r i) ∧ zay (zal r i) = true ∧ za3 (zal r i) ∧ (zal r i).length ≤ 8 := by
  have hx : r.Commits[i]? = some r.Commits[i] := List.getElem?_eq_getElem hi
  have h1 : zay (zal r i) = true := by
    have := zfi h.ok hi
    unfold zjH at this
    simp only [Bool.and_eq_true] at this
    exact this.2.2.2.2
  refine ⟨?_, h1, zax h1, za2 h1⟩
  unfold zal
  rw [zdf hx]
  exact (h.rb.cat hx).tree
theorem zf5 : TB ([] : List File) ∧ zay [] = true ∧ za3 [] ∧ ([] : List File).length ≤ 8 := ⟨TB.nil, rfl, fun f hf => by simp at hf, by simp⟩
theorem zdg {r : Repo} {z : Int} (h0 : 0 ≤ z) (h1 : z ≤ (r.Commits.length : Int) - 1) : gi r.Commits z = some (r.Commits.getD z.toNat noCommit) := by
  obtain ⟨n, rfl⟩ := Int.eq_ofNat_of_zero_le h0
  exact zjg (by omega)
theorem ziO (n : Str) (a : Int) : ∀ (hs : List Head), zem n a false hs ≠ []
  | [] => by simp [zem]
  | h :: hs => by
    unfold zem
    cases hb : Op.bytesLess h.Name n
    · simp
    · have := ziO n a hs
      cases (h.Name != n) <;> simp [this]
def zfb (n : Str) (a : Int) (h : Head) : Head := bif h.Name == n then ⟨n, a⟩ else h
theorem zg8 (n : Str) (a : Int) : ∀ (hs : List Head), (∀ h ∈ hs, h.Name ≠ n) → zem n a true hs = hs
  | [], _ => rfl
  | h :: hs, hn => by
    have h1 : (h.Name != n) = true := by simpa using hn h (by simp)
    unfold zem
    rw [h1, Bool.true_or, zg8 n a hs (fun x hx => hn x (List.mem_cons_of_mem _ hx))]
    rfl
theorem zg9 (n : Str) (a : Int) : ∀ (hs : List Head), hs.Pairwise (fun x y => x.Name < y.Name) → (∃ h ∈ hs, h.Name = n) → zem n a false hs = hs.map (zfb n a)
  | [], _, h => by obtain ⟨x, hx, _⟩ := h; simp at hx
  | h :: hs, hp, he => by
    obtain ⟨p1, p2⟩ := List.pairwise_cons.1 hp
    unfold zem
    rw [List.map_cons]
    cases hb : Op.bytesLess h.Name n with
    | true =>
      rw [zbf] at hb
      have hlt : h.Name < n := by simpa using hb
      have hne : h.Name ≠ n := fun e => by rw [e] at hlt; exact zas _ hlt
      have h1 : (h.Name != n) = true := by simpa using hne
      have h2 : (h.Name == n) = false := beq_false_of_ne hne
      have ht : ∃ x ∈ hs, x.Name = n := by
        obtain ⟨x, hx, e⟩ := he
        rcases List.mem_cons.1 hx with e2 | e2
        · rw [e2] at e; exact absurd e hne
        · exact ⟨x, e2, e⟩
      rw [h1]
      simp only [Bool.not_true, Bool.and_false, cond_false, cond_true, List.nil_append, Bool.or_false, List.singleton_append]
      rw [zg9 n a hs p2 ht]
      unfold zfb
      rw [h2]
      rfl
    | false =>
      rw [zbf] at hb
      have hge : n ≤ h.Name := zhl.1 (by simpa using hb)
      cases h2 : h.Name == n with
      | true =>
        have e : h.Name = n := by simpa using h2
        have h1 : (h.Name != n) = false := by rw [bne, h2]; rfl
        have hno : ∀ x ∈ hs, x.Name ≠ n := fun x hx e2 => by
          have := p1 x hx
          rw [e, e2] at this
          exact zas _ this
        rw [h1, Bool.not_false, Bool.or_true, zg8 n a hs hno]
        have hm : hs.map (zfb n a) = hs := by
          conv => rhs; rw [← List.map_id hs]
          refine List.map_congr_left (fun x hx => ?_)
          unfold zfb
          rw [beq_false_of_ne (hno x hx)]
          rfl
        rw [hm]
        unfold zfb
        rw [h2]
        rfl
      | false =>
        exfalso
        have hne : n ≠ h.Name := fun e => by rw [e] at h2; simp at h2
        have hlt := zcC hge hne
        obtain ⟨x, hx, e⟩ := he
        rcases List.mem_cons.1 hx with e2 | e2
        · rw [e2] at e; exact hne e.symm
        · have := p1 x e2
          rw [e] at this
          exact zas _ (zbh hlt this)
theorem zk0 {r : Repo} (h : zac r = true) : r.Heads.Pairwise (fun x y => x.Name < y.Name) := by
  unfold zac zdJ at h
  simp only [Bool.and_eq_true] at h
  have hg := zau.1 h.2.2.1
  have step : ∀ i, (hi : i + 1 < r.Heads.length) → (r.Heads[i]'(by omega)).Name < r.Heads[i + 1].Name := fun i hi => by
    have := hg (i + 1) (by omega) (by omega)
    unfold zfW at this
    rw [zcD (List.getElem?_eq_getElem hi), decide_eq_true (by omega), Nat.add_sub_cancel, zcD (List.getElem?_eq_getElem (show i < r.Heads.length by omega))] at this
    simp only [cond_true, Bool.and_eq_true, zbf, decide_eq_true_eq] at this
    exact this.2.2
  refine List.pairwise_iff_getElem.2 fun i j hi hj hij => ?_
  induction j with
  | zero => omega
  | succ j ih =>
    rcases Nat.lt_or_ge i j with h1 | h1
    · exact zbh (ih (by omega) h1) (step j hj)
    · have : i = j := by omega
      subst this
      exact step i hj
theorem zki {r : Repo} {n : Str} (h : 0 ≤ atB r n) : ∃ x ∈ r.Heads, x.Name = n := by
  unfold atB at h
  cases hf : r.Heads.find? (fun h => h.Name == n) with
  | none => rw [hf] at h; simp at h
  | some x => exact ⟨x, List.mem_of_find?_eq_some hf, by simpa using List.find?_some hf⟩
theorem ziP {r : Repo} (h : zac r = true) {n : Str} (ha : 0 ≤ atB r n) (b : Int) : headR r n b = ⟨r.Commits, r.Heads.map (zfb n b)⟩ := by
  unfold headR
  rw [zg9 n b r.Heads (zk0 h) (zki ha)]
theorem zkj {r : Repo} (h : zac r = true) {n : Str} (ha : 0 ≤ atB r n) {b : Int} (h0 : 0 ≤ b) (h1 : b ≤ (r.Commits.length : Int) - 1) : zac (headR r n b) = true := by
  rw [ziP h ha]
  have hh := h
  unfold zac zdJ at h ⊢
  simp only [Bool.and_eq_true, List.length_map] at h ⊢
  refine ⟨h.1, h.2.1, ?_, h.2.2.2⟩
  have hg := zau.1 h.2.2.1
  refine zau.2 fun i hi0 hi => ?_
  have hil : i < r.Heads.length := by omega
  have hx : r.Heads[i]? = some r.Heads[i] := List.getElem?_eq_getElem hil
  have hm : ∀ j, j < r.Heads.length → ((r.Heads.map (zfb n b)).getD j ze3).Name = (r.Heads.getD j ze3).Name := fun j hj => by
    have hxj : r.Heads[j]? = some r.Heads[j] := List.getElem?_eq_getElem hj
    rw [zcD hxj, zcD (f := zfb n b r.Heads[j]) (by rw [List.getElem?_map, hxj]; rfl)]
    unfold zfb
    cases he : r.Heads[j].Name == n with
    | true => simpa using (by simpa using he : r.Heads[j].Name = n).symm
    | false => rfl
  have hat : upB r.Commits.length ((r.Heads.map (zfb n b)).getD i ze3).At = true := by
    rw [zcD (f := zfb n b r.Heads[i]) (by rw [List.getElem?_map, hx]; rfl)]
    unfold zfb upB
    cases r.Heads[i].Name == n with
    | true => simp [h0, h1]
    | false =>
      have := zfj hh (List.getElem_mem hil)
      simp [this.1, this.2.1]
  have := hg i hi0 (by omega)
  unfold zfW at this ⊢
  simp only [Bool.and_eq_true] at this ⊢
  refine ⟨by rw [hm i hil]; exact this.1, hat, ?_⟩
  rw [hm i hil, hm (i - 1) (by omega)]
  exact this.2.2
def zf6 (r : Repo) (a b : Int) : List File := bif ((za7 r a b).length : Int) == 0 then [] else zal r ((za7 r a b).getD ((za7 r a b).length - 1) 0).toNat
theorem zhU {r : Repo} (h : Gd q r) {a b : Int} (ha : 0 ≤ a) (ha' : a ≤ (r.Commits.length : Int) - 1) (hb : 0 ≤ b) (hb' : b ≤ (r.Commits.length : Int) - 1) : zey r a b = some (zf6 r a b) ∧ TB (zf6 r a b) ∧ zay (zf6 r a b) = true := by
  have hs := (zah h.ok).1
  have hl := zkU r a b
  unfold zey zf6
  rw [zjJ h.ok ha ha' hb hb', Option.bind_some]
  cases hz : ((za7 r a b).length : Int) == 0 with
  | true => exact ⟨rfl, zf5.1, zf5.2.1⟩
  | false =>
    have hne : ((za7 r a b).length : Int) ≠ 0 := by simpa using hz
    have e : w64 (((za7 r a b).length : Int) - 1) = (((za7 r a b).length - 1 : Nat) : Int) := by rw [zar (by omega) (by omega)]; omega
    have hlt : (za7 r a b).length - 1 < (za7 r a b).length := by omega
    have hm : (za7 r a b).getD ((za7 r a b).length - 1) 0 ∈ za7 r a b := by
      rw [zdy (List.getElem?_eq_getElem hlt)]; exact List.getElem_mem hlt
    obtain ⟨q0, q1⟩ := zji hm
    rw [cond_false, cond_false, e, zgv hlt, Option.bind_some, zdg q0 q1, Option.bind_some]
    have := h.tree (i := ((za7 r a b).getD ((za7 r a b).length - 1) 0).toNat) (by omega)
    exact ⟨rfl, this.1, this.2.1⟩
def zfs (r : Repo) (n : Str) (c : Commit) : Repo × Int := bif zac (addR r n c) then (addR r n c, 0) else (r, 5)
def zgM (r : Repo) (n who : Str) (b : Int) : Repo × Int :=
  bif zeS (zaF r (atB r n)) b then (r, 2)
  else bif zeS (zaF r b) (atB r n) then (headR r n b, 3)
  else
    let j := zd7 (zf6 r (atB r n) b) (zal r (atB r n).toNat) (zal r b.toNat)
    bif decide (0 < (j.2.length : Int)) then (r, 4) else zfs r n ⟨[atB r n, b], who, j.1⟩
theorem Gd.add {r : Repo} (h : Gd q r) {n : Str} {c : Commit} (hn : n.length ≤ 1048576) (hc : CB c) (ho : zac (addR r n c) = true) : Gd q (addR r n c) := by
  obtain ⟨s1, s2⟩ := zah h.ok
  exact ⟨h.rb.addR (by omega) (by omega) hn hc, ho, fun _ _ => ziO _ _ _⟩
theorem Gd.head {r : Repo} (h : Gd q r) {n : Str} {b : Int} (hn : n.length ≤ 1048576) (ho : zac (headR r n b) = true) : Gd q (headR r n b) := by
  obtain ⟨s1, s2⟩ := zah h.ok
  exact ⟨h.rb.headR (by omega) hn b, ho, fun _ _ => ziO _ _ _⟩
theorem zgw {r : Repo} (h : Gd q r) {n : Str} {c : Commit} (hn : n.length ≤ 1048576) (hc : CB c) : Gd q (zfs r n c).1 := by
  unfold zfs
  cases ho : zac (addR r n c) with
  | true => exact h.add hn hc ho
  | false => exact h
theorem zhV {r : Repo} (h : Gd q r) {n : Str} {c : Commit} (hn : n.length ≤ 1048576) (hc : CB c) : ((zcM r n c).bind fun z130 => (zbx z130).bind fun z163 => bif (!z163) then (some (r, (5 : Int))) else (some (z130, 0))) = some (zfs r n c) := by
  obtain ⟨s1, s2⟩ := zah h.ok
  rw [zjd h.rb (by omega) (by omega) n hc, Option.bind_some, zcX (h.rb.addR (by omega) (by omega) hn hc), Option.bind_some]
  unfold zfs
  cases zac (addR r n c) <;> rfl
theorem zjN {r : Repo} (h : Gd q r) {n who : Str} {b : Int} (hn : n.length ≤ 1048576) (hw : who.length ≤ 1048576) (ha : 0 ≤ atB r n) (hb : 0 ≤ b) (hb' : b ≤ (r.Commits.length : Int) - 1) : zc7 r n who b = some (zgM r n who b) ∧ Gd q (zgM r n who b).1 := by
  obtain ⟨s1, s2⟩ := zah h.ok
  have ha' : atB r n ≤ (r.Commits.length : Int) - 1 := by rcases at_range h.ok n with e | e <;> omega
  have l1 := zde r (atB r n)
  have l2 := zde r b
  obtain ⟨e1, e2, e3⟩ := zhU h ha ha' hb hb'
  obtain ⟨ta, ta2, ta3, ta4⟩ := h.tree (i := (atB r n).toNat) (by omega)
  obtain ⟨tb, tb2, tb3, tb4⟩ := h.tree (i := b.toNat) (by omega)
  have hbs := za2 e3
  have hj := zih e2 ta tb (zax e3) ta3 tb3 (by omega) (by omega) (by omega)
  have hc : CB ⟨[atB r n, b], who, (zd7 (zf6 r (atB r n) b) (zal r (atB r n).toNat) (zal r b.toNat)).1⟩ := ⟨by simp, hw, hj⟩
  unfold zc7 zgM
  simp only [zd6 h.rb, Option.bind_some, zfk h.ok ha ha', zfk h.ok hb hb', zf4 (show (zaF r (atB r n)).length ≤ 1000000 by omega), zf4 (show (zaF r b).length ≤ 1000000 by omega), zgu h.rb (show r.Heads.length ≤ 100000 by omega), zdg ha ha', zdg hb hb', e1]
  cases zeS (zaF r (atB r n)) b with
  | true => exact ⟨rfl, h⟩
  | false =>
    cases zeS (zaF r b) (atB r n) with
    | true => exact ⟨rfl, h.head hn (zkj h.ok ha hb hb')⟩
    | false =>
      simp only [cond_false]
      have hjoin := zhS e2 ta tb (zax e3) ta3 tb3 (by omega) (by omega) (by omega)
      unfold zal at hjoin hc ⊢
      rw [hjoin, Option.bind_some]
      cases decide (0 < ((zd7 (zf6 r (atB r n) b) (r.Commits.getD (atB r n).toNat noCommit).Tree (r.Commits.getD b.toNat noCommit).Tree).2.length : Int)) with
      | true => exact ⟨rfl, h⟩
      | false => exact ⟨zhV h hn hc, zgw h hn hc⟩
def zii (r : Repo) (n who : Str) (b : Int) : Bool := decide (atB r n < 0) || (!zaM who || !upB r.Commits.length b)
def zjO (r : Repo) (n who : Str) (b : Int) : Repo × Int := bif zac r then (bif zii r n who b then (r, 1) else zgM r n who b) else (zbr, 1)
theorem zhW {r : Repo} {n who : Str} {b : Int} (h : zii r n who b = false) : 0 ≤ atB r n ∧ 0 ≤ b ∧ b ≤ (r.Commits.length : Int) - 1 := by
  unfold zii upB at h
  simp only [Bool.or_eq_false_iff, decide_eq_false_iff_not, Bool.not_eq_false', Bool.and_eq_true, decide_eq_true_eq] at h
  omega
theorem zfm {r : Repo} (h : Gd q r) {n who : Str} {b : Int} (hn : n.length ≤ 1048576) (hw : who.length ≤ 1048576) : zbj r n who b = some (zjO r n who b) ∧ Gd q (zjO r n who b).1 := by
  unfold zbj zjO
  have hwm := zaG hw
  rw [zcX h.rb, Option.bind_some, h.ok, Bool.not_true, cond_false, cond_true]
  simp only [jn, zd6 h.rb, Option.bind_some, zcb hwm, zeZ, ze4 (zaG h.rb.coms), zdL h.rb, show (⟨r.Commits, r.Heads⟩ : Repo) = r from rfl]
  rw [show (decide ((0 : Int) ≤ b) && decide (b ≤ (r.Commits.length : Int) - 1)) = upB r.Commits.length b from rfl]
  have key : zii r n who b = false → ((zc7 r n who b).bind fun z58 => some (z58.1, z58.2)) = some (zgM r n who b) ∧ Gd q (zgM r n who b).1 := fun hbad => by
    obtain ⟨p1, p2, p3⟩ := zhW hbad
    obtain ⟨q1, q2⟩ := zjN h hn hw p1 p2 p3
    rw [q1]
    exact ⟨rfl, q2⟩
  unfold zii at key ⊢
  cases h1 : decide (atB r n < 0) with
  | true => exact ⟨rfl, h⟩
  | false =>
    cases h2 : zaM who with
    | false => exact ⟨rfl, h⟩
    | true =>
      cases h3 : upB r.Commits.length b with
      | false => exact ⟨rfl, h⟩
      | true => exact key (by rw [h1, h2, h3]; rfl)
def zcK (r : Repo) (i : Nat) : List File := bif ((zae r i).length : Int) == 0 then [] else zal r ((zae r i).getD 0 0).toNat
theorem zfz {r : Repo} (h : Gd q r) {a : Int} (h0 : 0 ≤ a) (h1 : a ≤ (r.Commits.length : Int) - 1) : zbd r a = some (zcK r a.toNat) ∧ TB (zcK r a.toNat) ∧ zay (zcK r a.toNat) = true := by
  have hi : a.toNat < r.Commits.length := by omega
  obtain ⟨ps, pm⟩ := zaT h.ok hi
  unfold zbd zcK
  rw [zdg h0 h1, Option.bind_some]
  show (bif ((zae r a.toNat).length : Int) == 0 then _ else _) = _ ∧ _
  cases hz : ((zae r a.toNat).length : Int) == 0 with
  | true => exact ⟨rfl, zf5.1, zf5.2.1⟩
  | false =>
    have hne : ((zae r a.toNat).length : Int) ≠ 0 := by simpa using hz
    have hlt : 0 < (zae r a.toNat).length := by omega
    have hm : (zae r a.toNat).getD 0 0 ∈ zae r a.toNat := by
      rw [zdy (List.getElem?_eq_getElem hlt)]; exact List.getElem_mem hlt
    obtain ⟨q0, q1⟩ := pm _ hm
    have hg : gi (r.Commits.getD a.toNat noCommit).Parents 0 = some ((zae r a.toNat).getD 0 0) := zgv (l := zae r a.toNat) hlt
    rw [cond_false, cond_false, Option.bind_some, hg, Option.bind_some, zdg q0 (by omega), Option.bind_some]
    have := h.tree (i := ((zae r a.toNat).getD 0 0).toNat) (by omega)
    exact ⟨rfl, this.1, this.2.1⟩
def ze2 (r : Repo) (n who : Str) (o b : List File) : Repo × Int :=
  let j := zd7 o (zal r (atB r n).toNat) b
  bif decide (0 < (j.2.length : Int)) then (r, 4) else zfs r n ⟨[atB r n], who, j.1⟩
theorem zha {r : Repo} (h : Gd q r) {n who : Str} {o b : List File} (hn : n.length ≤ 1048576) (hw : who.length ≤ 1048576) (ha : 0 ≤ atB r n) (to : TB o) (to2 : zay o = true) (tb : TB b) (tb2 : zay b = true) : zcd r n who o b = some (ze2 r n who o b) ∧ Gd q (ze2 r n who o b).1 := by
  have ha' : atB r n ≤ (r.Commits.length : Int) - 1 := by rcases at_range h.ok n with e | e <;> omega
  have hs := (zah h.ok).1
  obtain ⟨ta, ta2, ta3, ta4⟩ := h.tree (i := (atB r n).toNat) (by omega)
  have ho := za2 to2
  have hb := za2 tb2
  have hj := zih to ta tb (zax to2) ta3 (zax tb2) (by omega) (by omega) (by omega)
  have hc : CB ⟨[atB r n], who, (zd7 o (zal r (atB r n).toNat) b).1⟩ := ⟨by simp, hw, hj⟩
  have hjoin := zhS to ta tb (zax to2) ta3 (zax tb2) (by omega) (by omega) (by omega)
  unfold zcd ze2
  rw [zd6 h.rb, Option.bind_some, zdg ha ha', Option.bind_some]
  unfold zal at hjoin hc ⊢
  rw [hjoin, Option.bind_some]
  simp only
  cases decide (0 < ((zd7 o (r.Commits.getD (atB r n).toNat noCommit).Tree b).2.length : Int)) with
  | true => exact ⟨rfl, h⟩
  | false => exact ⟨zhV h hn hc, zgw h hn hc⟩
def zdP (r : Repo) (n who : Str) (b : Int) : Repo × Int := bif zac r then (bif zii r n who b then (r, 1) else ze2 r n who (zcK r b.toNat) (zal r b.toNat)) else (zbr, 1)
def zdE (r : Repo) (n who : Str) (b : Int) : Repo × Int := bif zac r then (bif zii r n who b then (r, 1) else ze2 r n who (zal r b.toNat) (zcK r b.toNat)) else (zbr, 1)
theorem zgc {r : Repo} (h : Gd q r) {n who : Str} {b : Int} (hn : n.length ≤ 1048576) (hw : who.length ≤ 1048576) : zcP r n who b = some (zdP r n who b) ∧ Gd q (zdP r n who b).1 := by
  unfold zcP zdP
  have hwm := zaG hw
  rw [zcX h.rb, Option.bind_some, h.ok, Bool.not_true, cond_false, cond_true]
  simp only [jn, zd6 h.rb, Option.bind_some, zcb hwm, zeZ, ze4 (zaG h.rb.coms), zdL h.rb, show (⟨r.Commits, r.Heads⟩ : Repo) = r from rfl]
  rw [show (decide ((0 : Int) ≤ b) && decide (b ≤ (r.Commits.length : Int) - 1)) = upB r.Commits.length b from rfl]
  have key : zii r n who b = false → ((gi r.Commits b).bind fun u77 => (zbd r b).bind fun z82 => (zcd r n who z82 u77.Tree).bind fun z93 => some (z93.1, z93.2)) = some (ze2 r n who (zcK r b.toNat) (zal r b.toNat)) ∧ Gd q (ze2 r n who (zcK r b.toNat) (zal r b.toNat)).1 := fun hbad => by
    obtain ⟨p1, p2, p3⟩ := zhW hbad
    obtain ⟨q1, q2, q3⟩ := zfz h p2 p3
    obtain ⟨tb, tb2, tb3, tb4⟩ := h.tree (i := b.toNat) (by have := (zah h.ok).1; omega)
    obtain ⟨u1, u2⟩ := zha h hn hw p1 q2 q3 tb tb2
    rw [zdg p2 p3, Option.bind_some, q1, Option.bind_some, show (r.Commits.getD b.toNat noCommit).Tree = zal r b.toNat from rfl, u1]
    exact ⟨rfl, u2⟩
  unfold zii at key ⊢
  cases h1 : decide (atB r n < 0) with
  | true => exact ⟨rfl, h⟩
  | false =>
    cases h2 : zaM who with
    | false => exact ⟨rfl, h⟩
    | true =>
      cases h3 : upB r.Commits.length b with
      | false => exact ⟨rfl, h⟩
      | true => exact key (by rw [h1, h2, h3]; rfl)
theorem ze5 {r : Repo} (h : Gd q r) {n who : Str} {b : Int} (hn : n.length ≤ 1048576) (hw : who.length ≤ 1048576) : zbK r n who b = some (zdE r n who b) ∧ Gd q (zdE r n who b).1 := by
  unfold zbK zdE
  have hwm := zaG hw
  rw [zcX h.rb, Option.bind_some, h.ok, Bool.not_true, cond_false, cond_true]
  simp only [jn, zd6 h.rb, Option.bind_some, zcb hwm, zeZ, ze4 (zaG h.rb.coms), zdL h.rb, show (⟨r.Commits, r.Heads⟩ : Repo) = r from rfl]
  rw [show (decide ((0 : Int) ≤ b) && decide (b ≤ (r.Commits.length : Int) - 1)) = upB r.Commits.length b from rfl]
  have key : zii r n who b = false → ((gi r.Commits b).bind fun u77 => (zbd r b).bind fun z82 => (zcd r n who u77.Tree z82).bind fun z93 => some (z93.1, z93.2)) = some (ze2 r n who (zal r b.toNat) (zcK r b.toNat)) ∧ Gd q (ze2 r n who (zal r b.toNat) (zcK r b.toNat)).1 := fun hbad => by
    obtain ⟨p1, p2, p3⟩ := zhW hbad
    obtain ⟨q1, q2, q3⟩ := zfz h p2 p3
    obtain ⟨tb, tb2, tb3, tb4⟩ := h.tree (i := b.toNat) (by have := (zah h.ok).1; omega)
    obtain ⟨u1, u2⟩ := zha h hn hw p1 tb tb2 q2 q3
    rw [zdg p2 p3, Option.bind_some, q1, Option.bind_some, show (r.Commits.getD b.toNat noCommit).Tree = zal r b.toNat from rfl, u1]
    exact ⟨rfl, u2⟩
  unfold zii at key ⊢
  cases h1 : decide (atB r n < 0) with
  | true => exact ⟨rfl, h⟩
  | false =>
    cases h2 : zaM who with
    | false => exact ⟨rfl, h⟩
    | true =>
      cases h3 : upB r.Commits.length b with
      | false => exact ⟨rfl, h⟩
      | true => exact key (by rw [h1, h2, h3]; rfl)
end Go.Vm
namespace Go.Vm
open Go Go.Sx
set_option linter.unusedSimpArgs false
set_option linter.unusedVariables false
def zhb (r : Repo) (o : Op) (z : List File × Bool) : Repo × Int := bif z.2 then (bif (zdz r o.Branch o.Who z.1).2 then ((zdz r o.Branch o.Who z.1).1, 0) else (r, 5)) else (r, 1)
theorem zhX {r : Repo} (h : Good r) {n who : Str} {t : List File} (hn : n.length ≤ 1048576) (hw : who.length ≤ 1048576) (ht : TB t) : Good (zdz r n who t).1 := by
  unfold zdz
  rw [h.ok, cond_true]
  cases ho : zac (addR r n (zet r n who t)) with
  | true => exact h.add hn (CB.next hw ht) ho
  | false => exact h
theorem zfA {r : Repo} (h : Good r) {o : Op} {z : List File × Bool} (hn : o.Branch.length ≤ 1048576) (hw : o.Who.length ≤ 1048576) (hz : TB z.1) : zbc r o z.1 z.2 = some (zhb r o z) ∧ Good (zhb r o z).1 := by
  unfold zbc zhb
  have hg := zhX h hn hw hz
  rw [zgT h.rb hn hw hz, Option.bind_some]
  cases z.2 with
  | false => exact ⟨rfl, h⟩
  | true =>
    cases (zdz r o.Branch o.Who z.1).2 with
    | false => exact ⟨rfl, h⟩
    | true => exact ⟨rfl, hg⟩
def zeg (r : Repo) (n : Str) : List File := bif decide (0 ≤ atB r n) then zal r (atB r n).toNat else []
def zpO (r : Repo) (o : Op) : Repo × Int := bif (zeu r o.To (atB r o.Branch)).2 then ((zeu r o.To (atB r o.Branch)).1, 0) else (r, 1)
def doB (r : Repo) (o : Op) : Repo × Int :=
  bif o.Kind == 1 then zhb r o (znS (zeg r o.Branch) ⟨o.Path, o.Text⟩)
  else bif o.Kind == 2 then zhb r o (zpe (zeg r o.Branch) o.Path)
  else bif o.Kind == 3 then zhb r o (zjM (zeg r o.Branch) o.Path o.To)
  else bif o.Kind == 4 then zpO r o
  else bif o.Kind == 5 then zjO r o.Branch o.Who (atB r o.To)
  else bif o.Kind == 6 then zdP r o.Branch o.Who o.At
  else zdE r o.Branch o.Who o.At
theorem zmo {t : List File} (h : TB t) (hs : t.length ≤ 8) {g : File} (hg : FB g) : TB (znS t g).1 := by
  unfold znS
  cases zay t
  · exact TB.nil
  · cases zay (putF g false t)
    · exact h
    · exact h.putF (by omega) hg
theorem zn6 {t : List File} (h : TB t) (p : Str) : TB (zpe t p).1 := by
  unfold zpe
  cases zay t
  · exact TB.nil
  · exact h.dropF p
theorem zmp {t : List File} (h : TB t) (p to : Str) : TB (zjM t p to).1 := by
  unfold zjM
  cases htr : zay t with
  | false => exact TB.nil
  | true =>
    rw [cond_true]
    cases he : ((((dropF p t).length : Int)) == (t.length : Int)) with
    | true => exact h
    | false =>
      cases hpt : za0 to with
      | false => exact h
      | true =>
        have hs := za2 htr
        obtain ⟨e1, e2⟩ := ziN h hs (fun f hf => zdn (zcg htr hf)) (p := p) (zdn hpt) (K := fun _ _ => none) t.length 0 (t.length + 1) (dropF p t) (by omega) (by omega) (h.dropF p) (by have := List.length_filter_le (zmZ p) t; unfold dropF; omega)
        rw [List.drop_zero] at e2
        simp only [Bool.false_or, Bool.not_true, cond_false]
        cases (!zay (t.foldl (zeU p to) (dropF p t)) || (((t.foldl (zeU p to) (dropF p t)).length : Int) != (t.length : Int))) with
        | true => exact h
        | false => exact e2
theorem zmq {r : Repo} (h : Good r) {o : Op} (hf : OpFit o) (ho : opB o = true) : zfa r o = some (doB r o) ∧ Good (doB r o).1 := by
  obtain ⟨f0, f1, f2, f3, f4, f5, f6⟩ := hf.fit
  have hbw : zaM o.Branch = true ∧ zaM o.Who = true := by
    unfold opB at ho
    simp only [Bool.and_eq_true] at ho
    exact ⟨ho.1, ho.2.1⟩
  have hn := zcT hbw.1
  have hw := zcT hbw.2
  have hn' : o.Branch.length ≤ 1048576 := by omega
  have hw' : o.Who.length ≤ 1048576 := by omega
  have hst : TB (zeg r o.Branch) ∧ (zeg r o.Branch).length ≤ 8 := by
    unfold zeg
    cases hd : decide (0 ≤ atB r o.Branch) with
    | false => exact ⟨TB.nil, by simp⟩
    | true =>
      have h0 : 0 ≤ atB r o.Branch := by simpa using hd
      have ha' : atB r o.Branch ≤ (r.Commits.length : Int) - 1 := by rcases at_range h.ok o.Branch with e | e <;> omega
      have := h.tree (i := (atB r o.Branch).toNat) (by omega)
      exact ⟨this.1, this.2.2.2⟩
  have hfb : FB ⟨o.Path, o.Text⟩ := ⟨hf.path, zd8 hf.text, f6⟩
  have hto : o.To.length ≤ 1048576 := hf.to
  obtain ⟨a1, a2⟩ := zfA h (z := znS (zeg r o.Branch) ⟨o.Path, o.Text⟩) hn' hw' (zmo hst.1 hst.2 hfb)
  obtain ⟨b1, b2⟩ := zfA h (z := zpe (zeg r o.Branch) o.Path) hn' hw' (zn6 hst.1 o.Path)
  obtain ⟨c1, c2⟩ := zfA h (z := zjM (zeg r o.Branch) o.Path o.To) hn' hw' (zmp hst.1 o.Path o.To)
  obtain ⟨d1, d2⟩ := zfm h (n := o.Branch) (who := o.Who) (b := atB r o.To) hn' hw'
  obtain ⟨e1, e2⟩ := zgc h (n := o.Branch) (who := o.Who) (b := o.At) hn' hw'
  obtain ⟨g1, g2⟩ := ze5 h (n := o.Branch) (who := o.Who) (b := o.At) hn' hw'
  have hrest : ∀ t, t = zeg r o.Branch → (bif ((o.Kind : Int) == (1 : Int)) then
      ((Vm.zc4 t (Vm.File.mk o.Path o.Text)).bind fun z41 => (Vm.zbc r o z41.1 z41.2).bind fun z53 => some (z53.1, z53.2))
    else (bif ((o.Kind : Int) == (2 : Int)) then
        ((Vm.zcw t o.Path).bind fun z79 => (Vm.zbc r o z79.1 z79.2).bind fun z91 => some (z91.1, z91.2))
      else (bif ((o.Kind : Int) == (3 : Int)) then
          ((Vm.zcx t o.Path o.To).bind fun z117 => (Vm.zbc r o z117.1 z117.2).bind fun z129 => some (z129.1, z129.2))
        else (bif ((o.Kind : Int) == (4 : Int)) then
            ((Vm.zby r o.To (atB r o.Branch)).bind fun z157 => bif (!z157.2) then (some (r, 1)) else (some (z157.1, 0)))
          else (bif ((o.Kind : Int) == (5 : Int)) then
              ((Vm.zcc r o.To).bind fun z199 => (Vm.zbj r o.Branch o.Who z199).bind fun z208 => some (z208.1, z208.2))
            else (bif ((o.Kind : Int) == (6 : Int)) then
                ((Vm.zcP r o.Branch o.Who o.At).bind fun z226 => some (z226.1, z226.2))
              else ((Vm.zbK r o.Branch o.Who o.At).bind fun z243 => some (z243.1, z243.2)))))))) = some (doB r o) ∧ Good (doB r o).1 := by
    intro t et
    subst et
    unfold doB
    cases o.Kind == 1 with
    | true => rw [cond_true, cond_true, ziK hst.1 hfb, Option.bind_some, a1]; exact ⟨rfl, a2⟩
    | false =>
    cases o.Kind == 2 with
    | true => simp only [cond_true, cond_false]; rw [zhL hst.1, Option.bind_some, b1]; exact ⟨rfl, b2⟩
    | false =>
    cases o.Kind == 3 with
    | true => simp only [cond_true, cond_false]; rw [zhT hst.1 _ _ hto, Option.bind_some, c1]; exact ⟨rfl, c2⟩
    | false =>
    cases o.Kind == 4 with
    | true =>
      simp only [cond_true, cond_false]
      rw [zgU h.rb hto, Option.bind_some]
      unfold zpO zeu
      rw [h.ok, cond_true]
      cases hb : (decide (0 ≤ atB r o.To) || !zac (headR r o.To (atB r o.Branch))) with
      | true => exact ⟨rfl, h⟩
      | false =>
        refine ⟨rfl, h.head hto ?_⟩
        simp only [Bool.or_eq_false_iff, Bool.not_eq_false'] at hb
        exact hb.2
    | false =>
    cases o.Kind == 5 with
    | true => simp only [cond_true, cond_false]; rw [zd6 h.rb, Option.bind_some, d1]; exact ⟨rfl, d2⟩
    | false =>
    cases o.Kind == 6 with
    | true => simp only [cond_true, cond_false]; rw [e1]; exact ⟨rfl, e2⟩
    | false => simp only [cond_true, cond_false]; rw [g1]; exact ⟨rfl, g2⟩
  unfold zfa
  rw [zd6 h.rb, Option.bind_some]
  simp only [jn]
  cases hd : decide (0 ≤ atB r o.Branch) with
  | false =>
    refine hrest [] ?_
    unfold zeg
    rw [hd]; rfl
  | true =>
    have h0 : 0 ≤ atB r o.Branch := by simpa using hd
    have ha' : atB r o.Branch ≤ (r.Commits.length : Int) - 1 := by rcases at_range h.ok o.Branch with e | e <;> omega
    rw [cond_true, zdg h0 ha', Option.bind_some]
    refine hrest _ ?_
    unfold zeg
    rw [hd]; rfl
theorem zk1 : Good zbr := ⟨⟨by simp [zbr], fun c hc => by simp [zbr] at hc, by simp [zbr], fun c hc => by simp [zbr] at hc⟩, rfl, fun _ h => absurd rfl h⟩
def OpL (o : Op) : Prop := Bk.fit o ∧ Bk.bulk o ≤ 1000000
theorem ziQ {l : List Op} (hl : l.length ≤ 1000) (ho : ∀ o ∈ l, OpL o) : ∀ (k i m : Nat) (r : Repo), i + k = l.length → k < m → Good r → ∃ r', Good r' ∧ zbk l (fun _ y12 y15 => some (Vm.Repo.mk y12 y15)) m (i : Int) r.Commits r.Heads = some r'
  | k, i, 0, r, _, hm, _ => by omega
  | 0, i, m + 1, r, hi, _, hg => by
    obtain rfl : i = l.length := by omega
    simp only [zbk, jn, zai, cond_false]
    exact ⟨r, hg, rfl⟩
  | k + 1, i, m + 1, r, hi, hm, hg => by
    have hlt : i < l.length := by omega
    have hx : l[i]? = some l[i] := List.getElem?_eq_getElem hlt
    obtain ⟨q1, q2⟩ := ho _ (List.getElem_mem hlt)
    have hof := OpFit.of q1 (by omega)
    simp only [zbk, jn, zat hx, cond_true]
    cases decide ((i : Int) < 30) with
    | false => exact ⟨r, hg, rfl⟩
    | true =>
      rw [cond_true, zaf hx, Option.bind_some, zml hof, Option.bind_some, zag hlt (show l.length ≤ maxi by unfold maxi; omega)]
      cases hop : opB l[i] with
      | false => exact ziQ hl ho k (i + 1) m r (by omega) (by omega) hg
      | true =>
        obtain ⟨e1, e2⟩ := zmq hg hof hop
        rw [cond_true, Option.bind_some, show (⟨r.Commits, r.Heads⟩ : Repo) = r from rfl, e1, Option.bind_some]
        exact ziQ hl ho k (i + 1) m (doB r l[i]).1 (by omega) (by omega) e2
theorem zhY {l : List Op} (hl : l.length ≤ 1000) (ho : ∀ o ∈ l, OpL o) : ∃ r, Good r ∧ zdu l = some r := by
  unfold zdu
  simp only [jn]
  exact ziQ hl ho l.length 0 (l.length + 1) zbr (by omega) (by omega) zk1
section
variable {r : l30Rd} {p : Int}
theorem zgx {q k : Int} (h : zeo r p) (hk : 0 ≤ k) (hq : p + k ≤ q) : zeo ⟨r.b, r.p + k⟩ q := h.on k hk (by have := h.2.2; omega)
theorem zhZ (h : zeo r p) (hp : p ≤ 1000000000) : ∃ s, zcu r = some (s, r.p + 1) ∧ s.length ≤ 10 := by
  unfold zcu
  obtain ⟨s, e, hm⟩ := zkb h (by omega) (l := [([109, 97, 105, 110] : Str), ([109, 97, 105, 110] : Str), ([115, 105, 100, 101] : Str), ([100, 101, 118] : Str)]) (by simp) (by simp)
  refine ⟨s, by rw [e]; rfl, ?_⟩
  simp only [List.mem_cons, List.not_mem_nil, or_false] at hm
  rcases hm with e | e | e | e <;> rw [e] <;> simp
theorem zk2 (h : zeo r p) (hp : p ≤ 1000000000) : ∃ s, zcF r = some (s, r.p + 1) ∧ s.length ≤ 10 := by
  unfold zcF
  obtain ⟨s, e, hm⟩ := zkb h (by omega) (l := [([97] : Str), ([98] : Str), ([100, 47, 101] : Str), ([100, 47, 102] : Str), ([103, 47, 104, 47, 105] : Str), ([103, 47, 107] : Str), ([122] : Str)]) (by simp) (by simp)
  refine ⟨s, by rw [e]; rfl, ?_⟩
  simp only [List.mem_cons, List.not_mem_nil, or_false] at hm
  rcases hm with e | e | e | e | e | e | e <;> rw [e] <;> simp
theorem zgy {k a : Int} {b w q t : Str} {l : List Str} (hk : 0 ≤ k ∧ k ≤ 100) (ha : 0 ≤ a ∧ a ≤ 100) (h1 : b.length ≤ 10) (h2 : w.length ≤ 10) (h3 : q.length ≤ 10) (h4 : t.length ≤ 10) (h5 : LB 8 l) : OpL ⟨k, b, w, q, t, a, l⟩ := by
  have hb := h5.bulk
  refine ⟨⟨?_, ?_, ?_, ?_, ?_, ?_, h5.fit (by omega)⟩, ?_⟩
  · show -9223372036854775808 ≤ k ∧ k ≤ 9223372036854775807; omega
  · show b.length ≤ maxi; unfold maxi; omega
  · show w.length ≤ maxi; unfold maxi; omega
  · show q.length ≤ maxi; unfold maxi; omega
  · show t.length ≤ maxi; unfold maxi; omega
  · show -9223372036854775808 ≤ a ∧ a ≤ 9223372036854775807; omega
  · show 0 + (b.length + (w.length + (q.length + (t.length + (0 + Bk.bulk l))))) ≤ _
    omega
theorem zhc : LB 8 ([] : List Str) := ⟨by simp, fun s hs => by simp at hs⟩
theorem zsg (h : zeo r p) (hp : p ≤ 1000000) : ∃ o q, ze6 r = some (o, q) ∧ OpL o ∧ zeo ⟨r.b, q⟩ (p + 100) := by
  unfold ze6
  obtain ⟨b, e1, hb⟩ := zhZ h (by omega)
  have h1 := zgx (q := p + 1) h (k := 1) (by omega) (by omega)
  obtain ⟨w, e2, hw⟩ := zkb h1 (by omega) (l := [([97, 110, 110] : Str), ([98, 111, 98] : Str), ([99, 105, 100] : Str)]) (by simp) (by simp)
  have hwl : w.length ≤ 10 := by
    simp only [List.mem_cons, List.not_mem_nil, or_false] at hw
    rcases hw with e | e | e <;> rw [e] <;> simp
  have h2 := zgx (q := p + 2) h1 (k := 1) (by omega) (by omega)
  obtain ⟨k, e3, k0, k1⟩ := zfd h2 (n := 12) (by omega) (by omega) (by omega)
  have h3 := zgx (q := p + 3) h2 (k := 1) (by omega) (by omega)
  rw [e1, Option.bind_some, e2, Option.bind_some]
  simp only [jn, e3, Option.bind_some]
  obtain ⟨pa, e4, hpa⟩ := zk2 h3 (by omega)
  have h4 := zgx (q := p + 4) h3 (k := 1) (by omega) (by omega)
  obtain ⟨pb, e5, hpb⟩ := zk2 h4 (by omega)
  have h5 := zgx (q := p + 5) h4 (k := 1) (by omega) (by omega)
  obtain ⟨fo, e6, hfo⟩ := zkb h3 (by omega) (l := [([115, 105, 100, 101] : Str), ([100, 101, 118] : Str), ([111, 108, 100] : Str)]) (by simp) (by simp)
  have hfl : fo.length ≤ 10 := by
    simp only [List.mem_cons, List.not_mem_nil, or_false] at hfo
    rcases hfo with e | e | e <;> rw [e] <;> simp
  obtain ⟨br, e7, hbr⟩ := zhZ h3 (by omega)
  obtain ⟨n, e8, n0, n1⟩ := zfd h3 (n := 10) (by omega) (by omega) (by omega)
  obtain ⟨t, q, e9, ht, hq⟩ := zn1 h4 (by omega)
  simp only [e4, e5, e6, e7, e8, e9, Option.bind_some]
  have g4 : zeo ⟨r.b, r.p + 1 + 1 + 1 + 1⟩ (p + 100) := zgx h3 (by omega) (by omega)
  have g5 : zeo ⟨r.b, r.p + 1 + 1 + 1 + 1 + 1⟩ (p + 100) := zgx h4 (by omega) (by omega)
  have gq : zeo ⟨r.b, q⟩ (p + 100) := ⟨hq.1, hq.2.1, by have := hq.2.2; show q ≤ _; have e : (⟨r.b, q⟩ : l30Rd).p = q := rfl; rw [e] at this; omega⟩
  cases k == 0 with
  | true => exact ⟨_, _, rfl, zgy (by omega) (by omega) hb hwl hpa (by simp) zhc, g4⟩
  | false =>
  cases k == 1 with
  | true => exact ⟨_, _, rfl, zgy (by omega) (by omega) hb hwl hpa hpb zhc, g5⟩
  | false =>
  have hfork := zgy (k := 4) (a := 0) (by omega) (by omega) hb hwl (q := []) (by simp) hfl zhc
  have huni := zgy (k := 5) (a := 0) (by omega) (by omega) hb hwl (q := []) (by simp) hbr zhc
  have hset := zgy (k := 1) (a := 0) (by omega) (by omega) hb hwl hpa (t := []) (by simp) ht
  cases k == 2 with
  | true => exact ⟨_, _, rfl, hfork, g4⟩
  | false =>
  cases k == 3 with
  | true => exact ⟨_, _, rfl, hfork, g4⟩
  | false =>
  cases k == 4 with
  | true => exact ⟨_, _, rfl, huni, g4⟩
  | false =>
  cases k == 5 with
  | true => exact ⟨_, _, rfl, huni, g4⟩
  | false =>
  cases k == 6 with
  | true => exact ⟨_, _, rfl, huni, g4⟩
  | false =>
  cases k == 7 with
  | true => exact ⟨_, _, rfl, zgy (by omega) (by omega) hb hwl (by simp) (by simp) zhc, g4⟩
  | false =>
  cases k == 8 with
  | true => exact ⟨_, _, rfl, zgy (by omega) (by omega) hb hwl (by simp) (by simp) zhc, g4⟩
  | false => exact ⟨_, _, rfl, hset, gq⟩
theorem zm6 {x0 : l30Rd} : ∀ (m : Nat) (out : List Op) (n q p : Int), 0 ≤ n → n < m → (∀ o ∈ out, OpL o) → zeo ⟨x0.b, q⟩ p → p + 100 * n ≤ 1000000 → out.length + n ≤ 100 →
    ∃ l q', zc0 x0 (fun y15 _ y19 => some (y15, y19)) m out n q = some (l, q') ∧ (∀ o ∈ l, OpL o) ∧ l.length ≤ 100 ∧ zeo ⟨x0.b, q'⟩ (p + 100 * n)
  | 0, out, n, q, p, h0, hm, _, _, _, _ => by omega
  | m + 1, out, n, q, p, h0, hm, ho, hr, hp, hl => by
    simp only [zc0]
    by_cases hn : 0 < n
    · obtain ⟨o, q1, e1, o1, r1⟩ := zsg hr (by omega)
      rw [decide_eq_true hn, cond_true, e1, Option.bind_some, ap1 (show out.length ≤ 1048576 by omega), Option.bind_some, zar (by omega) (by omega)]
      obtain ⟨l, q', e2, l1, l2, r2⟩ := zm6 (x0 := x0) m (out ++ [o]) (n - 1) q1 (p + 100) (by omega) (by omega) (fun x hx => by
        rcases List.mem_append.1 hx with h1 | h1
        · exact ho x h1
        · rw [List.mem_singleton] at h1; rw [h1]; exact o1) r1 (by omega) (by simp; omega)
      exact ⟨l, q', e2, l1, l2, ⟨r2.1, r2.2.1, by have e : (⟨x0.b, q'⟩ : l30Rd).p ≤ p + 100 + 100 * (n - 1) := r2.2.2; show q' ≤ _; have e' : q' ≤ p + 100 + 100 * (n - 1) := e; omega⟩⟩
    · rw [decide_eq_false hn, cond_false]
      exact ⟨out, q, rfl, ho, by omega, ⟨hr.1, hr.2.1, by have e : q ≤ p := hr.2.2; show q ≤ _; omega⟩⟩
theorem zpP (h : zeo r p) (hp : p ≤ 100000) : ∃ l q, zew r = some (l, q) ∧ (∀ o ∈ l, OpL o) ∧ l.length ≤ 100 ∧ zeo ⟨r.b, q⟩ (p + 2001) := by
  unfold zew
  obtain ⟨n, e, hm⟩ := zlC h (by omega) (l := [0, 3, 8, 14, 20]) (by simp) (by simp)
  have hn : 0 ≤ n ∧ n ≤ 20 := by
    simp only [List.mem_cons, List.not_mem_nil, or_false] at hm
    omega
  have h1 := zgx (q := p + 1) h (k := 1) (by omega) (by omega)
  rw [e, Option.bind_some]
  simp only [jn]
  obtain ⟨l, q, e2, l1, l2, r2⟩ := zm6 (x0 := r) ((n - 0).toNat + 1) [] n (r.p + 1) (p + 1) hn.1 (by omega) (fun x hx => by simp at hx) h1 (by omega) (by simp; omega)
  exact ⟨l, q, e2, l1, l2, ⟨r2.1, r2.2.1, by have := r2.2.2; omega⟩⟩
theorem zn7 (h : zeo r p) (hp : p ≤ 100000) : ∃ x q, zd0 r = some (x, q) ∧ Good x ∧ zeo ⟨r.b, q⟩ (p + 2001) := by
  obtain ⟨l, q, e, l1, l2, r2⟩ := zpP h hp
  obtain ⟨x, hx, e2⟩ := zhY (by omega) l1
  refine ⟨x, q, ?_, hx, r2⟩
  unfold zd0
  rw [e, Option.bind_some, e2, Option.bind_some, zdL hx.rb, Option.bind_some]
structure Drawn (r : Repo) : Prop where
  rb : RpB r
  coms : r.Commits.length ≤ 16
  heads : r.Heads.length ≤ 6
theorem Gd.drawn {r : Repo} (h : Gd True r) : Drawn r := by
  obtain ⟨s1, s2⟩ := zah h.ok
  exact ⟨h.rb, s1, by omega⟩
theorem zm7 {x : Repo} (h : RpB x) {i : Nat} {c : Commit} (hc : CB c) : RpB ⟨x.Commits.set i c, x.Heads⟩ :=
  ⟨by simp; exact h.coms, fun y hy => by
    rcases List.mem_or_eq_of_mem_set hy with h1 | h1
    · exact h.com y h1
    · rw [h1]; exact hc, h.heads, h.head⟩
theorem zjP (h : zeo r p) (hp : p ≤ 100000) : ∃ x q, zcI r = some (x, q) ∧ Drawn x ∧ zeo ⟨r.b, q⟩ (p + 2010) := by
  obtain ⟨x, q, e, hg, r2⟩ := zn7 h hp
  obtain ⟨s1, s2⟩ := zah hg.ok
  have hd := hg.drawn
  unfold zcI
  rw [e, Option.bind_some]
  simp only [jn]
  have rq : zeo ⟨r.b, q⟩ (p + 2010) := ⟨r2.1, r2.2.1, by have := r2.2.2; omega⟩
  cases hc : decide ((0 : Int) < (x.Commits.length : Int)) with
  | false => exact ⟨x, q, rfl, hd, rq⟩
  | true =>
    have h0 : (0 : Int) < (x.Commits.length : Int) := by simpa using hc
    obtain ⟨k, e3, k0, k1⟩ := zfd r2 (n := (x.Commits.length : Int)) (by omega) h0 (by omega)
    have r3 : zeo ⟨r.b, q + 1⟩ (p + 2002) := zgx (q := p + 2002) r2 (k := 1) (by omega) (by omega)
    obtain ⟨z, e4, z0, z1⟩ := zfd r3 (n := 16) (by omega) (by omega) (by omega)
    have r4 : zeo ⟨r.b, q + 1 + 1⟩ (p + 2010) := zgx (q := p + 2010) r3 (k := 1) (by omega) (by omega)
    obtain ⟨n, rfl⟩ := Int.eq_ofNat_of_zero_le k0
    have hn : n < x.Commits.length := by omega
    have hx : x.Commits[n]? = some x.Commits[n] := List.getElem?_eq_getElem hn
    have hcb := hg.rb.cat hx
    simp only at e3 e4
    simp only [cond_true, e3, e4, Option.bind_some]
    cases z == 0 with
    | true =>
      rw [cond_true, zaf hx, Option.bind_some, zft hn, Option.bind_some]
      exact ⟨_, _, rfl, ⟨zm7 hg.rb ⟨by simp, hcb.who, hcb.tree⟩, by simp; exact s1, hd.heads⟩, r4⟩
    | false =>
    cases z == 1 with
    | true =>
      rw [cond_false, cond_true, zaf hx, Option.bind_some, zft hn, Option.bind_some]
      exact ⟨_, _, rfl, ⟨zm7 hg.rb ⟨hcb.par, by simp, hcb.tree⟩, by simp; exact s1, hd.heads⟩, r4⟩
    | false =>
    cases z == 2 with
    | true =>
      have hne : x.Heads ≠ [] := hg.hd trivial (fun e => by rw [e] at hn; simp at hn)
      have hh : x.Heads[0]? = some (x.Heads[0]'(List.length_pos_iff.2 hne)) := List.getElem?_eq_getElem _
      rw [cond_false, cond_false, cond_true, show gi x.Heads 0 = some (x.Heads[0]'(List.length_pos_iff.2 hne)) from zaf (i := 0) hh, Option.bind_some, ap1 hg.rb.heads, Option.bind_some]
      refine ⟨_, _, rfl, ⟨⟨hg.rb.coms, hg.rb.com, by simp; omega, fun y hy => ?_⟩, s1, by simp; omega⟩, r4⟩
      rcases List.mem_append.1 hy with h1 | h1
      · exact hg.rb.head y h1
      · rw [List.mem_singleton] at h1; rw [h1]; exact hg.rb.head _ (List.getElem_mem _)
    | false => exact ⟨x, _, rfl, hd, r4⟩
theorem zsh {code : List Byte} (h : code.length ≤ 1048576) : ∃ b : List Byte, zcY code = some ⟨b, 0⟩ ∧ zeo ⟨b, 0⟩ 0 := by
  obtain ⟨b, e, hb⟩ := znU h
  exact ⟨b, e, hb, by show (0 : Int) ≤ 0; omega, by show (0 : Int) ≤ 0; omega⟩
end
inductive Rc (r : Repo) : Nat → Nat → Prop
  | refl (a : Nat) : Rc r a a
  | step {a b : Nat} {p : Int} : Rc r a b → p ∈ zae r b → Rc r a p.toNat
theorem Rc.trans {r : Repo} {a b c : Nat} (h : Rc r a b) (k : Rc r b c) : Rc r a c := by
  induction k with
  | refl => exact h
  | step _ hp ih => exact Rc.step ih hp
theorem Rc.head {r : Repo} {a c : Nat} (h : Rc r a c) : c = a ∨ ∃ p ∈ zae r a, Rc r p.toNat c := by
  induction h with
  | refl => exact .inl rfl
  | @step b p hb hp ih =>
    rcases ih with e | ⟨q, hq, hc⟩
    · subst e
      exact .inr ⟨p, hp, Rc.refl _⟩
    · exact .inr ⟨q, hq, Rc.step hc hp⟩
theorem Rc.le {r : Repo} (hr : zac r = true) {a c : Nat} (ha : a < r.Commits.length) (h : Rc r a c) : c ≤ a ∧ c < r.Commits.length := by
  induction h with
  | refl => exact ⟨Nat.le_refl _, ha⟩
  | step _ hp ih =>
    have := (zaT hr ih.2).2 _ hp
    omega
def zfS (l : List Int) : Prop := l.Pairwise (· < ·)
theorem zfS.ext : ∀ {xs ys : List Int}, zfS xs → zfS ys → (∀ a, a ∈ xs ↔ a ∈ ys) → xs = ys
  | [], [], _, _, _ => rfl
  | [], y :: ys, _, _, h => by have := (h y).2 (by simp); simp at this
  | x :: xs, [], _, _, h => by have := (h x).1 (by simp); simp at this
  | x :: xs, y :: ys, hx, hy, h => by
    have hx' := List.pairwise_cons.1 hx
    have hy' := List.pairwise_cons.1 hy
    have e : x = y := by
      rcases List.mem_cons.1 ((h x).1 (by simp)) with e | hm
      · exact e
      · rcases List.mem_cons.1 ((h y).2 (by simp)) with e | hm2
        · exact e.symm
        · have h1 := hx'.1 y hm2
          have h2 := hy'.1 x hm
          omega
    subst e
    rw [zfS.ext hx'.2 hy'.2 (fun a => by
      constructor
      · intro ha
        rcases List.mem_cons.1 ((h a).1 (List.mem_cons_of_mem _ ha)) with e2 | e2
        · have := hx'.1 a ha; omega
        · exact e2
      · intro ha
        rcases List.mem_cons.1 ((h a).2 (List.mem_cons_of_mem _ ha)) with e2 | e2
        · have := hy'.1 a ha; omega
        · exact e2)]
theorem TB.of {t : List File} (hf : Bk.fit t) (h : Bk.bulk t ≤ 1048576) : TB t := ⟨zd8 h, fun f hm => by
  have h1 : Bk.bulk f ≤ 1048576 := zgR h hm
  have h2 : Bk.bulk f = f.Path.length + Bk.bulk f.Text := rfl
  exact ⟨by omega, zd8 (show Bk.bulk f.Text ≤ 1048576 by omega), (hf.2 f hm).2⟩⟩
theorem RpB.of {r : Repo} (hf : Bk.fit r) (h : Bk.bulk r ≤ 1048576) : RpB r := by
  have h0 : Bk.bulk r = Bk.bulk r.Commits + Bk.bulk r.Heads := rfl
  have hc : Bk.bulk r.Commits ≤ 1048576 := by omega
  have hh : Bk.bulk r.Heads ≤ 1048576 := by omega
  refine ⟨zd8 hc, fun c hm => ?_, zd8 hh, fun x hm => ?_⟩
  · have h1 : Bk.bulk c ≤ 1048576 := zgR hc hm
    have h2 : Bk.bulk c = Bk.bulk c.Parents + (c.Who.length + Bk.bulk c.Tree) := rfl
    exact ⟨zd8 (show Bk.bulk c.Parents ≤ 1048576 by omega), by omega, TB.of (hf.1.2 c hm).2.2 (by omega)⟩
  · have h1 : Bk.bulk x ≤ 1048576 := zgR hh hm
    have h2 : Bk.bulk x = x.Name.length + 0 := rfl
    omega
theorem zmr (x : Repo) : (⟨x.Commits, x.Heads⟩ : Repo) = x := rfl
theorem zhq {α : Type} (q : α → Bool) : ∀ (xs : List α) (b : Bool), xs.foldl (fun b x => b || q x) b = (b || xs.any q)
  | [], b => by simp
  | x :: xs, b => by rw [List.foldl_cons, zhq q xs, List.any_cons, Bool.or_assoc]
section
variable {r : l30Rd} {p : Int}
end
def zir (p : Int) : Prop := -9223372036854775808 ≤ p ∧ p ≤ 9223372036854775807
section
variable {r : Repo} {has : List Int} {sent : List Commit}
end
set_option linter.unusedSectionVars false
structure SentB (sent : List Commit) : Prop where
  len : sent.length ≤ 16
  cb : ∀ c ∈ sent, CB c
  fit : ∀ c ∈ sent, ∀ p ∈ c.Parents, zir p
theorem SentB.take {sent : List Commit} (h : SentB sent) (k : Nat) : SentB (sent.take k) :=
  ⟨Nat.le_trans (List.length_take_le' k sent) h.len, fun c hc => h.cb c (List.mem_of_mem_take hc), fun c hc => h.fit c (List.mem_of_mem_take hc)⟩
theorem SentB.set {sent : List Commit} (h : SentB sent) {c : Commit} (hc : CB c) (hf : ∀ p ∈ c.Parents, zir p) (k : Nat) : SentB (sent.set k c) :=
  ⟨by rw [List.length_set]; exact h.len, fun d hd => by
    rcases List.mem_or_eq_of_mem_set hd with q | q
    · exact h.cb d q
    · rw [q]; exact hc, fun d hd => by
    rcases List.mem_or_eq_of_mem_set hd with q | q
    · exact h.fit d q
    · rw [q]; exact hf⟩
section
variable {x : Repo} (hr : zac x = true) {a b : Int} (ha : upB x.Commits.length a = true) (hb : upB x.Commits.length b = true)
include hr ha
include hb
end
theorem zeL {α : Type} {f : α → Nat} {c : Nat} : ∀ {t : List α}, (∀ s ∈ t, f s ≤ c) → zbs f t ≤ c * t.length
  | [], _ => by simp [zbs]
  | x :: t, h => by
    have h1 := h x (by simp)
    have h2 := zeL (t := t) (fun s hs => h s (by simp [hs]))
    simp only [zbs, List.length_cons, Nat.mul_add, Nat.mul_one]
    omega
theorem zms {t : List Str} (h : zao t = true) : Bk.bulk t ≤ 130 := by
  have hl := zaj h
  have hs : zbs Bk.bulk t ≤ 12 * t.length := zeL fun s hs => by
    have := zg2 (zaO h s hs)
    show s.length ≤ 12
    omega
  show t.length + zbs Bk.bulk t ≤ 130
  omega
theorem zmt {t : List File} (h : zay t = true) : Bk.bulk t ≤ 1208 := by
  have hl := za2 h
  have hs : zbs Bk.bulk t ≤ 150 * t.length := zeL fun f hf => by
    have h1 := zdn (zcg h hf)
    have h2 := zms (zax h f hf)
    show f.Path.length + Bk.bulk f.Text ≤ 150
    omega
  show t.length + zbs Bk.bulk t ≤ 1208
  omega
theorem zm8 {r : Repo} (h : zac r = true) {c : Commit} (hc : c ∈ r.Commits) : c.Parents.length ≤ 2 ∧ (∀ p ∈ c.Parents, 0 ≤ p ∧ p ≤ 16) ∧ zaM c.Who = true ∧ zay c.Tree = true := by
  obtain ⟨i, hi⟩ := List.mem_iff_getElem?.1 hc
  have hil := zaP hi
  have s1 := (zah h).1
  have := zfi h (i := i) (by omega)
  rw [zdf hi] at this
  unfold zjH at this
  simp only [Bool.and_eq_true, decide_eq_true_eq, List.all_eq_true] at this
  refine ⟨by omega, fun p hp => ?_, this.2.2.2.1, this.2.2.2.2⟩
  have h1 := this.1 p hp
  unfold upB at h1
  simp only [Bool.and_eq_true, decide_eq_true_eq] at h1
  omega
theorem zmu {r : Repo} (h : zac r = true) : Bk.bulk r ≤ 20000 := by
  obtain ⟨s1, s2⟩ := zah h
  have h1 : zbs Bk.bulk r.Commits ≤ 1218 * r.Commits.length := zeL fun c hc => by
    obtain ⟨c1, _, c3, c4⟩ := zm8 h hc
    have := zcT c3
    have := zmt c4
    have hp : zbs Bk.bulk c.Parents ≤ 0 * c.Parents.length := zeL fun p hp => Nat.le_refl 0
    show c.Parents.length + zbs Bk.bulk c.Parents + (c.Who.length + Bk.bulk c.Tree) ≤ 1218
    omega
  have h2 : zbs Bk.bulk r.Heads ≤ 6 * r.Heads.length := zeL fun x hx => by
    have := zcT (zfj h hx).2.2
    show x.Name.length + 0 ≤ 6
    omega
  show r.Commits.length + zbs Bk.bulk r.Commits + (r.Heads.length + zbs Bk.bulk r.Heads) ≤ 20000
  omega
theorem zmv {t : List File} (h : zay t = true) : Bk.fit t := ⟨by have := za2 h; unfold maxi; omega, fun f hf => ⟨by have := zdn (zcg h hf); show f.Path.length ≤ maxi; unfold maxi; omega, by
  have h1 := zax h f hf
  have h2 := zaj h1
  exact zc9 (by omega) (zaO h1)⟩⟩
theorem zmw {r : Repo} (h : zac r = true) : Bk.fit r := by
  obtain ⟨s1, s2⟩ := zah h
  refine ⟨⟨by unfold maxi; omega, fun c hc => ?_⟩, by unfold maxi; omega, fun x hx => ?_⟩
  · obtain ⟨c1, c2, c3, c4⟩ := zm8 h hc
    refine ⟨⟨by unfold maxi; omega, fun p hp => ?_⟩, by have := zcT c3; show c.Who.length ≤ maxi; unfold maxi; omega, zmv c4⟩
    have := c2 p hp
    show -9223372036854775808 ≤ p ∧ p ≤ 9223372036854775807
    omega
  · obtain ⟨h1, h2, h3⟩ := zfj h hx
    refine ⟨by have := zcT h3; show x.Name.length ≤ maxi; unfold maxi; omega, ?_⟩
    show -9223372036854775808 ≤ x.At ∧ x.At ≤ 9223372036854775807
    omega
theorem zfS.lt {l : List Int} (h : zfS l) {i k : Nat} (hik : i < k) (hk : k < l.length) : l.getD i 0 < l.getD k 0 := by
  have h1 : i < l.length := by omega
  have := List.pairwise_iff_getElem.1 h i k h1 hk hik
  rw [zdy (List.getElem?_eq_getElem h1), zdy (List.getElem?_eq_getElem hk)]
  exact this
theorem zfS.inj {l : List Int} (h : zfS l) {i k : Nat} (hi : i < l.length) (hk : k < l.length) (e : l.getD i 0 = l.getD k 0) : i = k := by
  rcases Nat.lt_trichotomy i k with h1 | h1 | h1
  · have := h.lt h1 hk; omega
  · exact h1
  · have := h.lt h1 hi; omega
section
variable {r : Repo} (h : RpB r) (hr : zac r = true)
include h hr
end
def zoC (r : Repo) (n : Str) (x : Repo) : Prop := x = r ∨ x = zbr ∨ zac x = true
theorem zoC.bulk {r x : Repo} {n : Str} (h : zoC r n x) : Bk.bulk x ≤ Bk.bulk r + 20000 := by
  rcases h with h | h | h
  · rw [h]; omega
  · rw [h]; show 0 + 0 + (0 + 0) ≤ _; omega
  · have := zmu h; omega
theorem zoC.fit {r x : Repo} {n : Str} (hf : Bk.fit r) (h : zoC r n x) : Bk.fit x := by
  rcases h with h | h | h
  · rw [h]; exact hf
  · rw [h]; exact ⟨⟨by simp [zbr, maxi], by simp [zbr]⟩, by simp [zbr, maxi], by simp [zbr]⟩
  · exact zmw h
def ChH : Int → List Hunk → Prop
  | _, [] => True
  | lo, d :: l => lo ≤ d.At ∧ ChH (d.At + d.Less.length + 1) l
theorem ChH.mono : ∀ {l : List Hunk} {lo lo' : Int}, lo' ≤ lo → ChH lo l → ChH lo' l
  | [], _, _, _, _ => trivial
  | d :: l, _, _, h, ⟨h1, h2⟩ => ⟨Int.le_trans h h1, h2⟩
theorem zfB {R α σ : Type} {xs : List α} {g : σ → α → σ} {I : Nat → σ → Prop} {f : Nat → σ → Int → Option R} {Z : σ → Option R}
    (hs : ∀ m (i : Nat) x s, xs[i]? = some x → I i s → f (m + 1) s (i : Int) = f m (g s x) ((i + 1 : Nat) : Int) ∧ I (i + 1) (g s x)) (he : ∀ m s, I xs.length s → f (m + 1) s (xs.length : Int) = Z s) :
    ∀ (k i m : Nat) (s : σ), i + k = xs.length → k < m → I i s → f m s (i : Int) = Z ((xs.drop i).foldl g s) ∧ I xs.length ((xs.drop i).foldl g s)
  | k, i, 0, s, _, hm, _ => by omega
  | 0, i, m + 1, s, hi, _, h => by
    obtain rfl : i = xs.length := by omega
    rw [List.drop_length, List.foldl_nil]
    exact ⟨he m s h, h⟩
  | k + 1, i, m + 1, s, hi, hm, h => by
    have hlt : i < xs.length := by omega
    obtain ⟨e1, e2⟩ := hs m i xs[i] s (List.getElem?_eq_getElem hlt) h
    rw [e1, List.drop_eq_getElem_cons hlt, List.foldl_cons]
    exact zfB hs he k (i + 1) m _ (by omega) (by omega) e2
theorem zcr {R α σ : Type} {xs : List α} {g : σ → α → σ} {I : Nat → σ → Prop} {f : Nat → σ → Int → Option R} {Z : σ → Option R} {s : σ} (h : I 0 s)
    (hs : ∀ m (i : Nat) x s, xs[i]? = some x → I i s → f (m + 1) s (i : Int) = f m (g s x) ((i + 1 : Nat) : Int) ∧ I (i + 1) (g s x)) (he : ∀ m s, I xs.length s → f (m + 1) s (xs.length : Int) = Z s) : f (xs.length + 1) s 0 = Z (xs.foldl g s) ∧ I xs.length (xs.foldl g s) := by
  have := zfB hs he xs.length 0 (xs.length + 1) s (by omega) (by omega) h
  rwa [List.drop_zero] at this
section
variable {o b : List Str} (ho : o.length ≤ 1000) (hb : b.length ≤ 1000) {ps : List Int} (hps : ps.length = o.length + 1)
include ho hb hps
end
section
variable {o b : List Str} (ho : o.length ≤ 1000) (hb : b.length ≤ 1000)
include ho hb
end
section
variable {a b : List File} (ha : TB a) (hb : TB b) (ta : zay a = true) (tb : zay b = true)
include ha hb ta tb
end
def prefL : List Str → List Str → Nat
  | a :: l, b :: m => bif a == b then prefL l m + 1 else 0
  | _, _ => 0
theorem zjj : ∀ (a b : List Str), a.take (prefL a b) = b.take (prefL a b) ∧ prefL a b ≤ a.length ∧ prefL a b ≤ b.length
  | [], b => by simp [prefL]
  | a :: l, [] => by simp [prefL]
  | a :: l, b :: m => by
    obtain ⟨h1, h2, h3⟩ := zjj l m
    unfold prefL
    cases h : a == b with
    | false => simp
    | true =>
      have e : a = b := by simpa using h
      simp only [cond_true, List.take_succ_cons, List.length_cons, h1, e]
      exact ⟨trivial, by omega, by omega⟩
def zm9 (t : List Str) : List Str → Nat → Nat × Nat → Nat × Nat
  | [], _, r => r
  | b :: bs, i, r => zm9 t bs (i + 1) (bif decide (r.2 < prefL (b :: bs) t) then (i, prefL (b :: bs) t) else r)
def zn8 (base t : List Str) (r : Nat × Nat) : Prop := r.1 + r.2 ≤ base.length ∧ r.2 ≤ t.length ∧ (base.drop r.1).take r.2 = t.take r.2
theorem zk3 {base t : List Str} : ∀ (bs : List Str) (i : Nat) (r : Nat × Nat), base.drop i = bs → zn8 base t r → zn8 base t (zm9 t bs i r)
  | [], _, r, _, h => h
  | b :: bs, i, r, hb, h => by
    unfold zm9
    have hl : i + (b :: bs).length ≤ base.length := by
      have h1 : (base.drop i).length = (b :: bs).length := by rw [hb]
      simp only [List.length_drop, List.length_cons] at h1 ⊢
      omega
    refine zk3 bs (i + 1) _ ?_ ?_
    · rw [← List.drop_drop, hb]
      rfl
    · cases decide (r.2 < prefL (b :: bs) t) with
      | false => exact h
      | true =>
        obtain ⟨h1, h2, h3⟩ := zjj (b :: bs) t
        refine ⟨by show i + prefL (b :: bs) t ≤ _; omega, h3, ?_⟩
        show (base.drop i).take (prefL (b :: bs) t) = _
        rw [hb, h1]
        rfl
def zfp (base t : List Str) : Nat × Nat := zm9 t base 0 (0, 0)
theorem ziR (base t : List Str) : zn8 base t (zfp base t) := zk3 base 0 _ rfl ⟨by simp, by simp, by simp⟩
theorem zmx (base t : List Str) : (zfp base t).1 ≤ base.length ∧ (zfp base t).2 ≤ t.length := ⟨by have := (ziR base t).1; omega, (ziR base t).2.1⟩
def zh0 (out : List Delta) (x : Str) : List Delta := match out.getLast? with
  | some d => bif decide (0 < d.Lines.length) then out.dropLast ++ [⟨d.From, d.Many, d.Lines ++ [x]⟩] else out ++ [⟨0, 0, [x]⟩]
  | none => out ++ [⟨0, 0, [x]⟩]
def zdQ (base : List Str) : Nat → List Delta → List Str → List Delta
  | 0, out, _ => out
  | _ + 1, out, [] => out
  | n + 1, out, x :: t => bif decide (0 < (zfp base (x :: t)).2) then zdQ base n (out ++ [⟨(zfp base (x :: t)).1, (zfp base (x :: t)).2, []⟩]) ((x :: t).drop (zfp base (x :: t)).2) else zdQ base n (zh0 out x) t
def deltaL (base t : List Str) : List Delta := zdQ base t.length [] t
def zcE (base : List Str) (d : Delta) : List Str := bif decide (0 < d.Lines.length) then d.Lines else (base.drop d.From.toNat).take d.Many.toNat
def doL (base : List Str) (ds : List Delta) : List Str := ds.flatMap (zcE base)
def zfC (base t : List Str) (d : Delta) : Prop := (0 < d.Lines.length ∧ d.From = 0 ∧ d.Many = 0 ∧ ∀ x ∈ d.Lines, x ∈ t) ∨ (d.Lines = [] ∧ 0 ≤ d.From ∧ 1 ≤ d.Many ∧ d.From + d.Many ≤ (base.length : Int))
theorem zf7 {base : List Str} {ds : List Delta} {d : Delta} : doL base (ds ++ [d]) = doL base ds ++ zcE base d := by simp [doL]
theorem zmy {base t0 : List Str} {out : List Delta} {x : Str} (h : ∀ d ∈ out, zfC base t0 d) (hx : x ∈ t0) : (∀ d ∈ zh0 out x, zfC base t0 d) ∧ doL base (zh0 out x) = doL base out ++ [x] ∧ (zh0 out x).length ≤ out.length + 1 := by
  have new : (∀ d ∈ out ++ [⟨0, 0, [x]⟩], zfC base t0 d) ∧ doL base (out ++ [⟨0, 0, [x]⟩]) = doL base out ++ [x] ∧ (out ++ [(⟨0, 0, [x]⟩ : Delta)]).length ≤ out.length + 1 := by
    refine ⟨fun d hd => ?_, by rw [zf7]; rfl, by simp⟩
    rcases List.mem_append.1 hd with e | e
    · exact h d e
    · rw [List.mem_singleton.1 e]
      exact .inl ⟨by simp, rfl, rfl, fun y hy => by rw [List.mem_singleton.1 hy]; exact hx⟩
  unfold zh0
  cases hl : out.getLast? with
  | none => exact new
  | some d =>
    simp only
    cases hd : decide (0 < d.Lines.length) with
    | false => exact new
    | true =>
      have hp : 0 < d.Lines.length := by simpa using hd
      obtain ⟨pre, rfl⟩ := List.getLast?_eq_some_iff.1 hl
      rw [cond_true, List.dropLast_concat]
      have hdk := h d (by simp)
      have hq : d.From = 0 ∧ d.Many = 0 ∧ ∀ y ∈ d.Lines, y ∈ t0 := by
        rcases hdk with ⟨_, h1, h2, h3⟩ | ⟨h1, _⟩
        · exact ⟨h1, h2, h3⟩
        · rw [h1] at hp; simp at hp
      refine ⟨fun e he => ?_, ?_, by simp⟩
      · rcases List.mem_append.1 he with e1 | e1
        · exact h e (by simp [e1])
        · rw [List.mem_singleton.1 e1]
          refine .inl ⟨by simp, hq.1, hq.2.1, fun y hy => ?_⟩
          rcases List.mem_append.1 hy with e2 | e2
          · exact hq.2.2 y e2
          · rw [List.mem_singleton.1 e2]; exact hx
      · rw [zf7, zf7, List.append_assoc]
        have e1 : zcE base d = d.Lines := by unfold zcE; rw [hd]; rfl
        have e2 : zcE base ⟨d.From, d.Many, d.Lines ++ [x]⟩ = d.Lines ++ [x] := by unfold zcE; rw [decide_eq_true (by simp)]; rfl
        rw [e1, e2]
theorem zgz {base t0 : List Str} : ∀ (n : Nat) (out : List Delta) (t : List Str), t.length ≤ n → doL base out ++ t = t0 → (∀ d ∈ out, zfC base t0 d) → out.length + t.length ≤ t0.length →
    doL base (zdQ base n out t) = t0 ∧ (∀ d ∈ zdQ base n out t, zfC base t0 d) ∧ (zdQ base n out t).length ≤ t0.length
  | 0, out, t, hn, he, hp, hl => by
    have : t = [] := List.eq_nil_of_length_eq_zero (by omega)
    subst this
    exact ⟨by rw [← he]; simp [zdQ], hp, by unfold zdQ; omega⟩
  | n + 1, out, [], _, he, hp, hl => ⟨by rw [← he]; simp [zdQ], hp, by unfold zdQ; omega⟩
  | n + 1, out, x :: t, hn, he, hp, hl => by
    obtain ⟨r1, r2, r3⟩ := ziR base (x :: t)
    unfold zdQ
    simp only [List.length_cons] at hn hl
    have hx : x ∈ t0 := by rw [← he]; simp
    cases hm : decide (0 < (zfp base (x :: t)).2) with
    | true =>
      have hm' : 0 < (zfp base (x :: t)).2 := by simpa using hm
      rw [cond_true]
      have hpc : zcE base ⟨((zfp base (x :: t)).1 : Int), ((zfp base (x :: t)).2 : Int), []⟩ = (x :: t).take (zfp base (x :: t)).2 := by
        unfold zcE
        simp only [List.length_nil, Nat.lt_irrefl, decide_false, cond_false, Int.toNat_natCast]
        exact r3
      refine zgz n _ _ (by rw [List.length_drop, List.length_cons]; omega) ?_ (fun d hd => ?_) ?_
      · rw [zf7, hpc, List.append_assoc, List.take_append_drop]
        exact he
      · rcases List.mem_append.1 hd with e | e
        · exact hp d e
        · rw [List.mem_singleton.1 e]
          exact .inr ⟨rfl, by show (0 : Int) ≤ ((zfp base (x :: t)).1 : Int); omega, by show (1 : Int) ≤ ((zfp base (x :: t)).2 : Int); omega, by show ((zfp base (x :: t)).1 : Int) + ((zfp base (x :: t)).2 : Int) ≤ _; omega⟩
      · simp only [List.length_append, List.length_cons, List.length_nil, List.length_drop]
        omega
    | false =>
      rw [cond_false]
      obtain ⟨p1, p2, p3⟩ := zmy hp hx
      exact zgz n _ t (by omega) (by rw [p2, List.append_assoc]; exact he) p1 (by omega)
theorem zdo (base t : List Str) : doL base (deltaL base t) = t ∧ (∀ d ∈ deltaL base t, zfC base t d) ∧ (deltaL base t).length ≤ t.length :=
  zgz t.length [] t (Nat.le_refl _) rfl (fun d hd => by simp at hd) (by simp)
theorem ziS {base : List Str} {d : Delta} : ∀ {ds : List Delta}, d ∈ ds → (zcE base d).length ≤ (doL base ds).length
  | e :: ds, h => by
    simp only [doL, List.flatMap_cons, List.length_append]
    rcases List.mem_cons.1 h with e1 | e1
    · rw [e1]; omega
    · have := ziS (base := base) e1
      unfold doL at this
      omega
theorem zjQ {base t : List Str} (ht : zao t = true) {d : Delta} (hd : d ∈ deltaL base t) : zao d.Lines = true := by
  obtain ⟨h1, h2, _⟩ := zdo base t
  have hl := ziS (base := base) hd
  rw [h1] at hl
  have htl := zaj ht
  have htx := zaO ht
  rcases h2 d hd with ⟨p1, _, _, p4⟩ | ⟨p1, _⟩
  · have e1 : zcE base d = d.Lines := by unfold zcE; rw [decide_eq_true p1]; rfl
    rw [e1] at hl
    unfold zao
    simp only [Bool.and_eq_true, Bool.not_eq_true', decide_eq_false_iff_not, List.all_eq_true]
    exact ⟨by omega, fun x hx => htx x (p4 x hx)⟩
  · rw [p1]; rfl
def OD (n : Nat) (l : List Owner) : Prop := l.length ≤ n ∧ ∀ o ∈ l, o.Path.length ≤ 10 ∧ o.Who.length ≤ 10
theorem OD.fit {n : Nat} {l : List Owner} (h : OD n l) (hn : n ≤ 1000) : Bk.fit l := ⟨by have := h.1; unfold maxi; omega, fun o ho => by
  have := h.2 o ho
  exact ⟨by show o.Path.length ≤ maxi; unfold maxi; omega, by show o.Who.length ≤ maxi; unfold maxi; omega⟩⟩
theorem zfn {R σ : Type} {n : Nat} {I : Nat → σ → Prop} {f : Nat → σ → Int → Option R} {Z : σ → Option R}
    (hs : ∀ m (i : Nat) s, i < n → I i s → ∃ s', f (m + 1) s (i : Int) = f m s' ((i + 1 : Nat) : Int) ∧ I (i + 1) s') (he : ∀ m s, I n s → f (m + 1) s (n : Int) = Z s) :
    ∀ (k i m : Nat) (s : σ), i + k = n → k < m → I i s → ∃ s', f m s (i : Int) = Z s' ∧ I n s'
  | k, i, 0, s, _, hm, _ => by omega
  | 0, i, m + 1, s, hi, _, h => by
    obtain rfl : i = n := by omega
    exact ⟨s, he m s h, h⟩
  | k + 1, i, m + 1, s, hi, hm, h => by
    obtain ⟨s1, e1, h1⟩ := hs m i s (by omega) h
    obtain ⟨s2, e2, h2⟩ := zfn hs he k (i + 1) m s1 (by omega) (by omega) h1
    exact ⟨s2, e1.trans e2, h2⟩
theorem zh1 {a b : List Str} (ha : a.length ≤ 1000) : ∀ (k i m : Nat), i + k = a.length → k < m → zb7 a b (fun z => some z) m (i : Int) = some ((i + prefL (a.drop i) (b.drop i) : Nat) : Int)
  | k, i, 0, _, hm => by omega
  | 0, i, m + 1, hi, _ => by
    obtain rfl : i = a.length := by omega
    simp only [zb7, jn, zai, cond_false, List.drop_length]
    simp [prefL]
  | k + 1, i, m + 1, hi, hm => by
    have hlt : i < a.length := by omega
    have hx : a[i]? = some a[i] := List.getElem?_eq_getElem hlt
    have ih := zh1 (b := b) ha k (i + 1) m (by omega) (by omega)
    simp only [zb7, jn, zat hx, zaf hx, cond_true, Option.bind_some, zag hlt (show a.length ≤ maxi by unfold maxi; omega)]
    rw [List.drop_eq_getElem_cons hlt]
    by_cases hb : i < b.length
    · have hy : b[i]? = some b[i] := List.getElem?_eq_getElem hb
      rw [zat hy, zaf hy, cond_true, Option.bind_some, List.drop_eq_getElem_cons hb]
      unfold prefL
      cases a[i] == b[i] with
      | false => rfl
      | true =>
        rw [cond_true, cond_true, ih]
        congr 2
        omega
    · rw [decide_eq_false (by omega), cond_false, cond_false, show b.drop i = [] from List.drop_eq_nil_of_le (by omega)]
      rfl
theorem zk4 {a b : List Str} (ha : a.length ≤ 1000) : zeD a b = some ((prefL a b : Nat) : Int) := by
  unfold zeD
  simp only [jn]
  have := zh1 (b := b) ha a.length 0 (a.length + 1) (by omega) (by omega)
  simpa using this
theorem zna {base t : List Str} (hb : base.length ≤ 1000) {K : Int → Int → Int → Option (List Delta)} : ∀ (k i m : Nat) (r : Nat × Nat), i + k = base.length → k < m →
    zbL base t K m (r.1 : Int) (r.2 : Int) (i : Int) = K ((zm9 t (base.drop i) i r).1 : Int) ((zm9 t (base.drop i) i r).2 : Int) (base.length : Int)
  | k, i, 0, _, _, hm => by omega
  | 0, i, m + 1, r, hi, _ => by
    obtain rfl : i = base.length := by omega
    simp only [zbL, zai, cond_false, List.drop_length, zm9]
  | k + 1, i, m + 1, r, hi, hm => by
    have hlt : i < base.length := by omega
    have hx : base[i]? = some base[i] := List.getElem?_eq_getElem hlt
    have ih := fun r => zna (t := t) hb (K := K) k (i + 1) m r (by omega) (by omega)
    have hd : (base.drop i).length ≤ 1000 := by rw [List.length_drop]; omega
    have e1 : decide ((r.2 : Int) < (prefL (base.drop i) t : Int)) = decide (r.2 < prefL (base.drop i) t) := decide_eq_decide.2 (by omega)
    simp only [zbL, jn, zat hx, cond_true, zeY (show i ≤ base.length by omega), Option.bind_some, zk4 hd, zag hlt (show base.length ≤ maxi by unfold maxi; omega), e1]
    rw [List.drop_eq_getElem_cons hlt] at *
    unfold zm9
    cases decide (r.2 < prefL (base[i] :: base.drop (i + 1)) t) with
    | true => exact ih (i, prefL (base[i] :: base.drop (i + 1)) t)
    | false => exact ih r
theorem pushD_cases (out : List Delta) (x : Str) : (out = [] ∧ zh0 out x = [⟨0, 0, [x]⟩]) ∨ ∃ pre d, out = pre ++ [d] ∧ zh0 out x = bif decide (0 < d.Lines.length) then pre ++ [⟨d.From, d.Many, d.Lines ++ [x]⟩] else pre ++ [d] ++ [⟨0, 0, [x]⟩] := by
  cases h : out.getLast? with
  | none =>
    have : out = [] := List.getLast?_eq_none_iff.1 h
    subst this
    exact .inl ⟨rfl, rfl⟩
  | some d =>
    obtain ⟨pre, rfl⟩ := List.getLast?_eq_some_iff.1 h
    refine .inr ⟨pre, d, rfl, ?_⟩
    unfold zh0
    rw [h]
    simp only [List.dropLast_concat]
theorem zjk {base : List Str} (hb : base.length ≤ 1000) : ∀ (n : Nat) (out : List Delta) (t : List Str) (m : Nat), t.length ≤ n → t.length < m → out.length + t.length ≤ 1000 → (∀ d ∈ out, d.Lines.length + t.length ≤ 1000) →
    zdx base (fun _ a => some a) m t out = some (zdQ base n out t)
  | _, _, _, 0, _, hm, _, _ => by omega
  | 0, out, t, m + 1, hn, _, _, _ => by
    have : t = [] := List.eq_nil_of_length_eq_zero (by omega)
    subst this
    rfl
  | n + 1, out, [], m + 1, _, _, _, _ => rfl
  | n + 1, out, x :: t, m + 1, hn, hm, hl, hd => by
    have ih := fun out t h1 h2 h3 h4 => zjk hb n out t m h1 h2 h3 h4
    obtain ⟨r1, r2⟩ := zmx base (x :: t)
    simp only [List.length_cons] at hn hm hl hd r2
    have run := fun K => zna (t := x :: t) hb (K := K) base.length 0 (base.length + 1) (0, 0) (by omega) (by omega)
    rw [List.drop_zero] at run
    have run' : ∀ K : Int → Int → Int → Option (List Delta), zbL base (x :: t) K (((base.length : Int) - 0).toNat + 1) 0 0 0 = K ((zfp base (x :: t)).1 : Int) ((zfp base (x :: t)).2 : Int) (base.length : Int) := fun K => by
      rw [zaA]
      exact run K
    have hg : gi (x :: t) 0 = some x := zaf (i := 0) rfl
    have hs1 : slM (x :: t) (maxI 1 0) (((x :: t).length : Nat) : Int) = some t := zeY (xs := x :: t) (i := 1) (by simp)
    unfold zdQ
    simp only [zdx, jn, run']
    rw [decide_eq_true (show (0 : Int) < (((x :: t).length : Nat) : Int) by simp only [List.length_cons]; omega), cond_true, show decide ((0 : Int) < ((zfp base (x :: t)).2 : Int)) = decide (0 < (zfp base (x :: t)).2) from decide_eq_decide.2 (by omega)]
    cases hm0 : decide (0 < (zfp base (x :: t)).2) with
    | true =>
      have hm' : 0 < (zfp base (x :: t)).2 := by simpa using hm0
      have hmx : maxI 1 ((zfp base (x :: t)).2 : Int) = ((zfp base (x :: t)).2 : Int) := by
        unfold maxI
        by_cases h1 : (1 : Int) < ((zfp base (x :: t)).2 : Int)
        · rw [if_pos h1]
        · rw [if_neg h1]; omega
      have hs2 : slM (x :: t) ((zfp base (x :: t)).2 : Int) (((x :: t).length : Nat) : Int) = some ((x :: t).drop (zfp base (x :: t)).2) := zeY (by simp only [List.length_cons]; omega)
      rw [cond_true, cond_true, ap1 (by omega), Option.bind_some, hmx, hs2, Option.bind_some]
      refine ih _ _ (by rw [List.length_drop, List.length_cons]; omega) (by rw [List.length_drop, List.length_cons]; omega) (by rw [List.length_drop]; simp only [List.length_append, List.length_cons, List.length_nil]; omega) (fun d h1 => ?_)
      rw [List.length_drop, List.length_cons]
      rcases List.mem_append.1 h1 with h1 | h1
      · have := hd d h1; omega
      · rw [List.mem_singleton.1 h1]; simp only [List.length_nil]; omega
    | false =>
      have hm' : (zfp base (x :: t)).2 = 0 := by simpa using hm0
      rw [cond_false, cond_false, hm', show ((0 : Nat) : Int) = 0 from rfl]
      rcases pushD_cases out x with ⟨e1, e2⟩ | ⟨pre, d, e1, e2⟩
      · rw [e2, e1]
        have hw : decide ((0 : Int) ≤ w64 ((([] : List Delta).length : Int) - 1)) = false := by decide
        simp only [hw, cond_false, hg, Option.bind_some, ap1 (xs := ([] : List Delta)) (x := ⟨0, 0, [x]⟩) (by simp), List.nil_append, hs1]
        exact ih _ _ (by omega) (by omega) (by simp; omega) (fun d h1 => by rw [List.mem_singleton.1 h1]; simp; omega)
      · rw [e2, e1]
        rw [e1] at hl hd
        simp only [List.length_append, List.length_cons, List.length_nil] at hl
        have hdd := hd d (by simp)
        have hw : w64 (((pre ++ [d]).length : Int) - 1) = (pre.length : Int) := by
          have hle : ((pre ++ [d]).length : Int) = (pre.length : Int) + 1 := by simp
          rw [hle, zar (by omega) (by omega)]
          omega
        have hgd : gi (pre ++ [d]) (pre.length : Int) = some d := zaf (by simp)
        have hset : ∀ y, siM (pre ++ [d]) (pre.length : Int) y = some (pre ++ [y]) := fun y => by
          rw [zft (by simp)]
          simp
        rw [hw, decide_eq_true (show (0 : Int) ≤ (pre.length : Int) by omega), cond_true, hgd, Option.bind_some, Option.bind_some, show decide ((0 : Int) < (d.Lines.length : Int)) = decide (0 < d.Lines.length) from decide_eq_decide.2 (by omega)]
        cases decide (0 < d.Lines.length) with
        | true =>
          simp only [cond_true, hg, Option.bind_some, ap1 (xs := d.Lines) (x := x) (by omega), hset, hs1]
          refine ih _ _ (by omega) (by omega) (by simp; omega) (fun e h1 => ?_)
          rcases List.mem_append.1 h1 with h1 | h1
          · have := hd e (by simp [h1]); omega
          · rw [List.mem_singleton.1 h1]; simp; omega
        | false =>
          simp only [cond_false, hg, Option.bind_some, ap1 (xs := pre ++ [d]) (x := (⟨0, 0, [x]⟩ : Delta)) (by simp; omega), hs1]
          refine ih _ _ (by omega) (by omega) (by simp; omega) (fun e h1 => ?_)
          rcases List.mem_append.1 h1 with h1 | h1
          · have := hd e h1; omega
          · rw [List.mem_singleton.1 h1]; simp; omega
theorem zjl {base t : List Str} (hb : base.length ≤ 1000) (ht : t.length ≤ 1000) : zeO base t = some (deltaL base t) := by
  unfold zeO deltaL
  simp only [jn, zaA]
  exact zjk hb t.length [] t (t.length + 1) (Nat.le_refl _) (by omega) (by simp; omega) (fun d h => by simp at h)
section
variable {base t : List Str} (hb : zao base = true) (ht : zao t = true)
include hb ht
theorem zjR : zd2 (deltaL base t) = some true := by
  have lb := zaj hb
  have lt := zaj ht
  obtain ⟨d1, d2, d3⟩ := zdo base t
  unfold zd2
  rw [decide_eq_false (by omega), cond_false]
  simp only [jn, zaA]
  generalize hds : deltaL base t = ds at *
  rw [zbg (n := ds.length) (g := fun _ => true) (r0 := some false) (Z := some true) (f := fun m i => zbF ds (fun _ _ => some true) m false i) (fun m i hi => by
    have hx : ds[i]? = some ds[i] := List.getElem?_eq_getElem hi
    have hm := List.getElem_mem hi
    have ptx : zao ds[i].Lines = true := zjQ ht (base := base) (d := ds[i]) (by rw [hds]; exact hm)
    simp only [zbF, jn, zat hx, zaf hx, cond_true, Option.bind_some, zag hi (show ds.length ≤ maxi by unfold maxi; omega), zdm]
    rcases d2 ds[i] hm with ⟨p1, p2, p3, _⟩ | ⟨p1, p2, p3, p4⟩
    · have pl := zaj ptx
      rw [decide_eq_true (show (0 : Int) < (ds[i].Lines.length : Int) by omega), cond_true, p2, p3, zes (zc9 (show ds[i].Lines.length ≤ 1000000 by omega) (zaO ptx)), ptx]
      rfl
    · have e1 : w64 (10 - ds[i].From) = 10 - ds[i].From := zar (by omega) (by omega)
      rw [p1]
      simp only [List.length_nil, e1, decide_eq_true p2, decide_eq_true (show ds[i].From ≤ 10 by omega), decide_eq_true p3, decide_eq_true (show ds[i].Many ≤ 10 - ds[i].From by omega)]
      rfl) (fun m => by simp only [zbF, zai, cond_false]) _ (by omega), zau.2 (fun _ _ _ => rfl), cond_true]
theorem zmz (ds : List Delta) (i : Nat) : (doL base (ds.take i)).length ≤ (doL base ds).length := by
  have : doL base ds = doL base (ds.take i) ++ doL base (ds.drop i) := by
    unfold doL
    rw [← List.flatMap_append, List.take_append_drop]
  rw [this, List.length_append]
  omega
theorem zhd : zco base (deltaL base t) = some (t, true) := by
  have lb := zaj hb
  have lt := zaj ht
  obtain ⟨d1, d2, d3⟩ := zdo base t
  have hok := zjR hb ht
  unfold zco
  rw [zes (zc9 (show base.length ≤ 1000000 by omega) (zaO hb)), hb]
  simp only [jn, hok, Option.bind_some, Bool.not_true, cond_false, zaA]
  generalize deltaL base t = ds at *
  have := (zcr (xs := ds) (g := fun s d => s ++ zcE base d) (I := fun i s => s = doL base (ds.take i)) (Z := fun a => (zbv a).bind fun d => bif (!d) then some (([] : List Str), false) else some (a, true)) (f := fun m s i => zbG base ds (fun _ _ a _ => (zbv a).bind fun d => bif (!d) then some (([] : List Str), false) else some (a, true)) m [] false s i) (s := []) (by simp [doL]) (fun m i x s hx hI => by
    have hi := zaP hx
    have hm := List.mem_of_getElem? hx
    have hsl := zmz hb ht ds i
    rw [d1, ← hI] at hsl
    have hpl := ziS (base := base) hm
    rw [d1] at hpl
    refine ⟨?_, ?_⟩
    · simp only [zbG, jn, zat hx, zaf hx, cond_true, Option.bind_some, zag hi (show ds.length ≤ maxi by unfold maxi; omega)]
      rw [show decide ((0 : Int) < (x.Lines.length : Int)) = decide (0 < x.Lines.length) from decide_eq_decide.2 (by omega)]
      unfold zcE at hpl ⊢
      cases hd : decide (0 < x.Lines.length) with
      | true =>
        rw [hd, cond_true] at hpl
        rw [cond_true, cond_true, apT (by omega) (by omega), Option.bind_some]
      | false =>
        rw [hd, cond_false] at hpl
        have hn0 : ¬ 0 < x.Lines.length := by simpa using hd
        rcases d2 x hm with ⟨p1, _⟩ | ⟨p1, p2, p3, p4⟩
        · omega
        · have e1 : w64 (x.From + x.Many) = x.From + x.Many := zar (by omega) (by omega)
          rw [cond_false, cond_false, e1, decide_eq_false (by omega), cond_false, zh4 p2 (by omega) p4, Option.bind_some]
          have e2 : (base.take (x.From + x.Many).toNat).drop x.From.toNat = (base.drop x.From.toNat).take x.Many.toNat := by
            rw [List.drop_take]
            congr 1
            omega
          rw [e2, apT (by omega) (by omega), Option.bind_some]
    · rw [hI, List.take_add_one, hx]
      simp [doL]) (fun m s _ => by simp only [zbG, zai, cond_false])).1
  refine this.trans ?_
  have e3 : ds.foldl (fun s d => s ++ zcE base d) [] = t := by
    have h1 : ∀ (l : List Delta) (s : List Str), l.foldl (fun s d => s ++ zcE base d) s = s ++ l.flatMap (zcE base) := by
      intro l
      induction l with
      | nil => intro s; simp
      | cons d l ih => intro s; rw [List.foldl_cons, ih, List.flatMap_cons, List.append_assoc]
    rw [h1, List.nil_append]
    exact d1
  rw [e3, zes (zc9 (show t.length ≤ 1000000 by omega) (zaO ht)), ht]
  rfl
end
theorem zgA (d : List Delta) (h : d.length ≤ 1000) : ∃ z, zec d = some z := by
  unfold zec
  simp only [jn, zaA]
  obtain ⟨s, e, _⟩ := zfn (n := d.length) (I := fun _ (_ : Int) => True) (Z := fun a => some a) (f := fun m s i => zb8 d (fun a _ => some a) m s i) (fun m i s hi _ => by
    have hx : d[i]? = some d[i] := List.getElem?_eq_getElem hi
    refine ⟨w64 (s + (d[i].Lines.length : Int)), ?_, trivial⟩
    simp only [zb8, zat hx, zaf hx, cond_true, Option.bind_some, zag hi (show d.length ≤ maxi by unfold maxi; omega)]) (fun m s _ => by simp only [zb8, zai, cond_false]) d.length 0 (d.length + 1) (d.length : Int) (by omega) (by omega) trivial
  exact ⟨s, e⟩
def zpf (list : List (List Str)) (ds : List Int) (i : Nat) (t : List Str) (b dep : Int) (d : List Delta) : Prop := (b = -1 ∧ d = deltaL [] t ∧ dep = 1) ∨ ∃ k o dk, k < i ∧ b = (k : Int) ∧ list[k]? = some o ∧ ds[k]? = some dk ∧ d = deltaL o t ∧ dep = dk + 1 ∧ dk ≤ 2
def zq6 (list : List (List Str)) (i : Nat) (s : List Packed × List Int) : Prop := s.1.length = i ∧ s.2.length = i ∧ ∀ j, j < i → ∃ p dep t, s.1[j]? = some p ∧ s.2[j]? = some dep ∧ list[j]? = some t ∧ 1 ≤ dep ∧ dep ≤ 3 ∧ zpf list s.2 j t p.Base dep p.Delta
theorem zpf.snoc {list : List (List Str)} {ds : List Int} {i : Nat} {t : List Str} {b dep z : Int} {d : List Delta} (h : zpf list ds i t b dep d) : zpf list (ds ++ [z]) i t b dep d := by
  rcases h with h | ⟨k, o, dk, h1, h2, h3, h4, h5⟩
  · exact .inl h
  · exact .inr ⟨k, o, dk, h1, h2, h3, by rw [List.getElem?_append_left (List.getElem?_eq_some_iff.1 h4).1]; exact h4, h5⟩
section
variable {list : List (List Str)} (h12 : list.length ≤ 12) (hl : ∀ t ∈ list, zao t = true)
include h12 hl
theorem ziT : ∃ p ds, zeE list = some p ∧ zq6 list list.length (p, ds) := by
  unfold zeE
  rw [decide_eq_false (by omega), cond_false]
  simp only [jn, zaA]
  rw [zbg (n := list.length) (g := fun _ => true) (r0 := some []) (Z := zaQ list (fun a _ _ => some a) (list.length + 1) [] [] 0) (f := fun m i => zb9 list (fun _ _ => zaQ list (fun a _ _ => some a) (list.length + 1) [] [] 0) m [] i) (fun m i hi => by
    have hx : list[i]? = some list[i] := List.getElem?_eq_getElem hi
    have ht := hl _ (List.getElem_mem hi)
    have htl := zaj ht
    simp only [zb9, zat hx, zaf hx, cond_true, Option.bind_some, zag hi (show list.length ≤ maxi by unfold maxi; omega), zes (zc9 (show list[i].length ≤ 1000000 by omega) (zaO ht)), ht, Bool.not_true, cond_false]) (fun m => by simp only [zb9, zai, cond_false]) _ (by omega), zau.2 (fun _ _ _ => rfl), cond_true]
  obtain ⟨s, e, hI⟩ := zfn (n := list.length) (I := zq6 list) (Z := fun s => some s.1) (f := fun m s i => zaQ list (fun a _ _ => some a) m s.1 s.2 i) (fun m i s hi hI => by
    obtain ⟨i1, i2, i3⟩ := hI
    have hx : list[i]? = some list[i] := List.getElem?_eq_getElem hi
    have ht := hl _ (List.getElem_mem hi)
    have htl := zaj ht
    have htk : (list.take i).length = i := by rw [List.length_take]; omega
    -- the best one ahead
    have inner : ∀ K : Int → Int → Int → List Delta → Option (List Packed), (∀ e z z' b d, K e z b d = K e z' b d) → ∃ b dep d, zbp s.2 list[i] (list.take i) K (i + 1) 1 0 (-1) (deltaL [] list[i]) = K dep 0 b d ∧ 1 ≤ dep ∧ dep ≤ 3 ∧ zpf list s.2 i list[i] b dep d := fun K hK => by
      obtain ⟨q, e, h1, h2, h3⟩ := zfn (n := i) (I := fun _ (q : Int × Int × List Delta) => 1 ≤ q.1 ∧ q.1 ≤ 3 ∧ zpf list s.2 i list[i] q.2.1 q.1 q.2.2) (Z := fun q => K q.1 0 q.2.1 q.2.2) (f := fun m q k => zbp s.2 list[i] (list.take i) K m q.1 k q.2.1 q.2.2) (fun m k q hk hq => by
        have hxk : (list.take i)[k]? = some list[k] := by rw [List.getElem?_take_of_lt hk]; exact List.getElem?_eq_getElem (by omega)
        have hok := zaj (hl _ (List.getElem_mem (show k < list.length by omega)))
        obtain ⟨p, dep, t, j1, j2, j3, j4, j5, j6⟩ := i3 k hk
        obtain ⟨qb, qd, qp⟩ := hq
        have hpl : q.2.2.length ≤ 1000 := by
          rcases qp with ⟨_, w, _⟩ | ⟨_, o, _, _, _, _, _, w, _⟩ <;> rw [w]
          · have := (zdo [] list[i]).2.2; omega
          · have := (zdo o list[i]).2.2; omega
        have hnl : (deltaL list[k] list[i]).length ≤ 1000 := by have := (zdo list[k] list[i]).2.2; omega
        obtain ⟨z1, s1⟩ := zgA _ hnl
        obtain ⟨z2, s2⟩ := zgA _ hpl
        simp only [zbp, jn, zat hxk, zaf hxk, zaf j2, cond_true, Option.bind_some, zag (show k < (list.take i).length by omega) (show (list.take i).length ≤ maxi by unfold maxi; omega), zjl (show list[k].length ≤ 1000 by omega) (show list[i].length ≤ 1000 by omega), s1, s2]
        cases h3 : decide ((3 : Int) ≤ dep) with
        | true => exact ⟨q, rfl, qb, qd, qp⟩
        | false =>
          have h3' : dep ≤ 2 := by
            have : ¬ (3 : Int) ≤ dep := by simpa using h3
            omega
          simp only [cond_false]
          cases decide (z1 < z2) with
          | false => exact ⟨q, rfl, qb, qd, qp⟩
          | true =>
            refine ⟨(dep + 1, (k : Int), deltaL list[k] list[i]), ?_, by show 1 ≤ dep + 1; omega, by show dep + 1 ≤ 3; omega, .inr ⟨k, list[k], dep, hk, rfl, List.getElem?_eq_getElem (by omega), j2, rfl, rfl, h3'⟩⟩
            simp only [cond_true, zar (show -9223372036854775808 ≤ dep + 1 by omega) (show dep + 1 ≤ 9223372036854775807 by omega)]) (fun m q _ => by
          have := zai (list.take i).length
          rw [htk] at this
          simp only [zbp, htk, this, cond_false]
          exact hK _ _ _ _ _) i 0 (i + 1) (1, -1, deltaL [] list[i]) (by omega) (by omega) ⟨by show (1 : Int) ≤ 1; omega, by show (1 : Int) ≤ 3; omega, .inl ⟨rfl, rfl, rfl⟩⟩
      exact ⟨q.2.1, q.1, q.2.2, e, h1, h2, h3⟩
    obtain ⟨b, dep, d, e, h1, h2, h3⟩ := inner (fun h o i' j => (apM s.1 [Packed.mk i' j]).bind fun k => (apM s.2 [h]).bind fun l => zaQ list (fun a _ _ => some a) m k l ((i + 1 : Nat) : Int)) (fun _ _ _ _ _ => rfl)
    refine ⟨(s.1 ++ [⟨b, d⟩], s.2 ++ [dep]), ?_, by simp [i1], by simp [i2], fun j hj => ?_⟩
    · simp only [zaQ, jn, zat hx, zaf hx, cond_true, Option.bind_some, zjl (base := []) (by simp) (show list[i].length ≤ 1000 by omega), zfI (show i ≤ list.length by omega), zag hi (show list.length ≤ maxi by unfold maxi; omega), zaA, htk]
      rw [e, ap1 (by omega), Option.bind_some, ap1 (by omega), Option.bind_some]
    · rcases Nat.lt_or_ge j i with hji | hji
      · obtain ⟨p, dp, t, j1, j2, j3, j4, j5, j6⟩ := i3 j hji
        exact ⟨p, dp, t, by rw [List.getElem?_append_left (by omega)]; exact j1, by rw [List.getElem?_append_left (by omega)]; exact j2, j3, j4, j5, j6.snoc⟩
      · obtain rfl : j = i := by omega
        exact ⟨⟨b, d⟩, dep, list[j], by rw [List.getElem?_append_right (by omega), i1]; simp, by rw [List.getElem?_append_right (by omega), i2]; simp, hx, h1, h2, h3.snoc⟩) (fun m s _ => by simp only [zaQ, zai, cond_false]) list.length 0 (list.length + 1) ([], []) (by omega) (by omega) ⟨rfl, rfl, fun j hj => by omega⟩
  exact ⟨s.1, s.2, e, hI⟩
theorem zk5 {p : List Packed} {ds : List Int} (hp : zq6 list list.length (p, ds)) : zeF p = some (list, true) := by
  obtain ⟨p1, p2, p3⟩ := hp
  simp only at p1 p2 p3
  unfold zeF
  rw [decide_eq_false (by omega), cond_false]
  simp only [jn, zaA]
  obtain ⟨s, e, hI⟩ := zfn (n := p.length) (I := fun i (s : List (List Str) × List Int) => s = (list.take i, ds.take i)) (Z := fun s => some (s.1, true)) (f := fun m s i => zca p (fun _ _ a _ _ => some (a, true)) m [] false s.1 s.2 i) (fun m i s hi hI => by
    subst hI
    have hx : p[i]? = some p[i] := List.getElem?_eq_getElem hi
    obtain ⟨q, dep, t, j1, j2, j3, j4, j5, j6⟩ := p3 i (by omega)
    rw [hx] at j1
    cases j1
    have ht := hl t (List.mem_of_getElem? j3)
    have htl : (list.take i).length ≤ 1000 := by rw [List.length_take]; omega
    have hdl : (ds.take i).length ≤ 1000 := by rw [List.length_take]; omega
    have g1 : list.take i ++ [t] = list.take (i + 1) := by rw [List.take_add_one, j3]; rfl
    have g2 : ds.take i ++ [dep] = ds.take (i + 1) := by rw [List.take_add_one, j2]; rfl
    have hw : w64 ((i : Int) - 1) = (i : Int) - 1 := zar (by omega) (by omega)
    refine ⟨_, ?_, rfl⟩
    simp only [zca, jn, zat hx, zaf hx, cond_true, Option.bind_some, zag hi (show p.length ≤ maxi by unfold maxi; omega), zdm, hw]
    rcases j6 with ⟨b1, b2, b3⟩ | ⟨k, o, dk, b1, b2, b3, b4, b5, b6, b7⟩
    · subst b3
      rw [b1, b2]
      have e0 : zco [] (deltaL [] t) = some (t, true) := zhd rfl ht
      rw [decide_eq_true (show (-1 : Int) ≤ -1 by omega), decide_eq_true (show (-1 : Int) ≤ (i : Int) - 1 by omega), decide_eq_false (show ¬ (0 : Int) ≤ -1 by omega)]
      simp only [Bool.and_self, Bool.not_true, cond_false, e0, Option.bind_some, decide_eq_false (show ¬ (3 : Int) < 1 by omega), ap1 (x := t) (show (list.take i).length ≤ 1048576 by omega), ap1 (x := (1 : Int)) (show (ds.take i).length ≤ 1048576 by omega), g1, g2]
    · have ho := hl o (List.mem_of_getElem? b3)
      have e0 : zco o (deltaL o t) = some (t, true) := zhd ho ht
      have k1 : gi (list.take i) (k : Int) = some o := zaf (by rw [List.getElem?_take_of_lt b1]; exact b3)
      have k2 : gi (ds.take i) (k : Int) = some dk := zaf (by rw [List.getElem?_take_of_lt b1]; exact b4)
      have hw2 : w64 (dk + 1) = dep := by rw [zar (by omega) (by omega)]; omega
      rw [b2, decide_eq_true (show (-1 : Int) ≤ (k : Int) by omega), decide_eq_true (show (k : Int) ≤ (i : Int) - 1 by omega), decide_eq_true (show (0 : Int) ≤ (k : Int) by omega), b5]
      simp only [Bool.and_self, Bool.not_true, cond_false, cond_true, k1, k2, hw2, e0, Option.bind_some, decide_eq_false (show ¬ (3 : Int) < dep by omega), ap1 (x := t) (show (list.take i).length ≤ 1048576 by omega), ap1 (x := dep) (show (ds.take i).length ≤ 1048576 by omega), g1, g2]) (fun m s _ => by simp only [zca, zai, cond_false]) p.length 0 (p.length + 1) ([], []) (by omega) (by omega) rfl
  refine e.trans ?_
  rw [hI, p1, List.take_length]
theorem zjS {p : List Packed} {ds : List Int} (hp : zq6 list list.length (p, ds)) {i : Nat} {t : List Str} (ht : list[i]? = some t) : zd3 p (i : Int) = some (t, true) := by
  have hi := zaP ht
  have hpl := hp.1
  simp only at hpl
  unfold zd3
  rw [zk5 h12 hl hp, Option.bind_some]
  simp only [jn, Bool.not_true, cond_false, zdm, Option.bind_some, ze4 (show p.length ≤ maxi by unfold maxi; omega)]
  rw [decide_eq_true (show (0 : Int) ≤ (i : Int) by omega), decide_eq_true (show (i : Int) ≤ (p.length : Int) - 1 by omega), zaf ht]
  rfl
end
end Go.Vm
