/- Plain law FnPickOf, and what it uses: what the models answer. Conditions: each law's own premises. -/
import Derived.Test.YtokbhelngoeblaaGreatDoorBM0
import Derived.Test.YtokbhelngoeblaaGreatDoorBM1
import Derived.Test.YtokbhelngoeblaaGreatDoorBM3
import Derived.Test.YtokbhelngoeblaaGreatDoorBM4
import Derived.Test.YtokbhelngoeblaaGreatDoorBM8
import Derived.Test.YtokbhelngoeblaaGreatDoorBLw
import Derived.Sort.Walk0
import Derived.Lib.SplitLaws
import Derived.Test.YtokbhelngoeblaaGreatDoorBX
import Derived.Lib.Join
namespace Go.Vm
open Go Go.Sx
set_option linter.unusedSimpArgs false
set_option linter.unusedVariables false
def chB (c : UInt8) : Bool := !(decide ((c.toNat : Int) < 32) || decide (126 < (c.toNat : Int)))
def zcE (s : Str) : Bool := !decide (12 < (s.length : Int)) && s.all chB
def zar (xs : List Str) : Bool := !decide (10 < (xs.length : Int)) && xs.all zcE
theorem zku (a b : Int) : decide (a ≤ b) = !decide (b < a) := by
  by_cases h : a ≤ b
  · rw [decide_eq_true h, decide_eq_false (by omega)]; rfl
  · rw [decide_eq_false h, decide_eq_true (by omega)]; rfl
theorem zkv {s : Str} (h : s.length ≤ zam) : zgv s = some (zcE s) := by
  unfold zgv zcE
  simp only [jn, zas]
  cases decide ((12 : Int) < (s.length : Int))
  case true => rfl
  rw [cond_false, zaK (α := UInt8) (xs := s) (p := chB) (r0 := some false) (Z := some true) (f := fun m i => zcv s (fun _ _ => some true) m false i) (fun m i x hx => by
    simp only [zcv, jn, zaq hx, zg3 hx, cond_true, Option.bind_some, zag (zav hx) h, chB]
    cases decide ((x.toNat : Int) < 32) <;> cases decide (126 < (x.toNat : Int)) <;> rfl) (fun m => by simp only [zcv, zai, cond_false]) (by omega)]
  cases s.all chB <;> rfl
theorem zkw {s : Str} (h : s.length ≤ zam) : zgs s = some (zcE s) := by
  unfold zgs zcE
  simp only [jn, zas, zku]
  rw [zaK (α := UInt8) (xs := s) (p := chB) (r0 := some false) (Z := some (!decide (12 < (s.length : Int)))) (f := fun m i => zcn s (fun _ _ => some (!decide (12 < (s.length : Int)))) m false i) (fun m i x hx => by
    simp only [zcn, jn, zaq hx, zg3 hx, cond_true, Option.bind_some, zag (zav hx) h, chB]
    cases decide ((x.toNat : Int) < 32) <;> cases decide (126 < (x.toNat : Int)) <;> rfl) (fun m => by simp only [zcn, zai, cond_false]) (by omega)]
  cases s.all chB <;> cases decide (12 < (s.length : Int)) <;> rfl
theorem zdM {xs : List Str} (h : Bk.fit xs) : zbu xs = some (zar xs) := by
  have hl := zkm h
  unfold zbu zar
  simp only [jn, zas]
  cases decide ((10 : Int) < (xs.length : Int))
  case true => rfl
  rw [cond_false, zaK (α := Str) (xs := xs) (p := zcE) (r0 := some false) (Z := some true) (f := fun m i => zcw xs (fun _ _ => some true) m false i) (fun m i x hx => by
    have hx2 : x.length ≤ zam := zlV h hx
    simp only [zcw, zaq hx, zae hx, cond_true, Option.bind_some, zag (zav hx) hl, zkv hx2]
    cases zcE x <;> rfl) (fun m => by simp only [zcw, zai, cond_false]) (by omega)]
  cases xs.all zcE <;> rfl
theorem ziX {xs : List Str} (h : Bk.fit xs) : zdq xs = some (zar xs) := by
  have hl := zkm h
  unfold zdq zar
  simp only [jn, zas, zku]
  rw [zaK (α := Str) (xs := xs) (p := zcE) (r0 := some false) (Z := some (!decide (10 < (xs.length : Int)))) (f := fun m i => zdT xs (fun _ _ => some (!decide (10 < (xs.length : Int)))) m false i) (fun m i x hx => by
    have hx2 : x.length ≤ zam := zlV h hx
    simp only [zdT, zaq hx, zae hx, cond_true, Option.bind_some, zag (zav hx) hl, zkw hx2]
    cases zcE x <;> rfl) (fun m => by simp only [zdT, zai, cond_false]) (by omega)]
  cases xs.all zcE <;> cases decide (10 < (xs.length : Int)) <;> rfl
theorem zay {t : List Str} (h : zar t = true) : t.length ≤ 10 := by
  unfold zar at h
  simp only [Bool.and_eq_true, Bool.not_eq_true', decide_eq_false_iff_not] at h
  omega
theorem zaT {t : List Str} (h : zar t = true) : ∀ s ∈ t, zcE s = true := by
  unfold zar at h
  simp only [Bool.and_eq_true, List.all_eq_true] at h
  exact h.2
theorem zhS {s : Str} (h : zcE s = true) : s.length ≤ 12 := by
  unfold zcE at h
  simp only [Bool.and_eq_true, Bool.not_eq_true', decide_eq_false_iff_not] at h
  omega
theorem ziY {a b c : List Str} (ha : Bk.fit a) (hb : Bk.fit b) (hc : Bk.fit c) : zeV a b c = some (zar a && (zar b && zar c)) := by
  unfold zeV
  simp only [jn, zdM ha, zdM hb, zdM hc, Option.bind_some]
  cases zar a <;> cases zar b <;> rfl
theorem zeH {xs ys : List Str} (h : xs.length ≤ zam) : zaJ xs ys = some (xs == ys) := by
  unfold zaJ
  simp only [zgI, jn, zas]
  by_cases hn : xs.length = ys.length
  · rw [hn, beq_self_eq_true, Bool.not_true, cond_false, ← hn]
    rw [zfJ (α := Str) (r0 := some false) (Z := some true) (f := fun m i => zau xs ys (fun _ _ => some true) m false i) hn (fun m i x y hx hy => by
      simp only [zau, zaq hx, zae hx, zae hy, cond_true, Option.bind_some, zag (zav hx) h, bne]
      cases x == y <;> rfl) (fun m => by simp only [zau, zai, cond_false]) (by omega)]
    cases xs == ys <;> rfl
  · rw [beq_false_of_ne hn, Bool.not_false, cond_true, beq_false_of_ne (fun e => hn (by rw [e]))]
theorem zf7 {xs ys : List Str} (h : xs.length ≤ zam) : ze4 xs ys = some (xs == ys) := by
  unfold ze4
  simp only [zgI, jn, zas]
  by_cases hn : xs.length = ys.length
  · rw [hn, beq_self_eq_true, Bool.not_true, cond_false, ← hn]
    rw [zfJ (α := Str) (r0 := some false) (Z := some true) (f := fun m i => zcs xs ys (fun _ _ => some true) m false i) hn (fun m i x y hx hy => by
      simp only [zcs, zaq hx, zae hx, zae hy, cond_true, Option.bind_some, zag (zav hx) h, bne]
      cases x == y <;> rfl) (fun m => by simp only [zcs, zai, cond_false]) (by omega)]
    cases xs == ys <;> rfl
  · rw [beq_false_of_ne hn, Bool.not_false, cond_true, beq_false_of_ne (fun e => hn (by rw [e]))]
theorem zbO {x : List Str} (h : x.length ≤ 1048576) : zdu x = some x := by
  unfold zdu
  rw [apN h]; rfl
theorem zkx {a b : Int} (ha : 0 ≤ a) (ha' : a ≤ 9223372036854775807) (hb : 0 ≤ b) (hb' : b ≤ 9223372036854775807) : 0 ≤ znw a b ∧ znw a b ≤ 9223372036854775807 := by
  obtain ⟨n, rfl⟩ := Int.eq_ofNat_of_zero_le ha
  obtain ⟨m, rfl⟩ := Int.eq_ofNat_of_zero_le hb
  have hn : n < 2 ^ 63 := by omega
  have hm : m < 2 ^ 63 := by omega
  have hx : n ^^^ m < 2 ^ 63 := Nat.xor_lt_two_pow hn hm
  have h1 : (BitVec.ofInt 64 (n : Int) ^^^ BitVec.ofInt 64 (m : Int)).toNat = n ^^^ m := by
    rw [BitVec.toNat_xor, BitVec.toNat_ofInt, BitVec.toNat_ofInt]
    have e1 : ((n : Int) % (2 ^ 64 : Nat)).toNat = n := by omega
    have e2 : ((m : Int) % (2 ^ 64 : Nat)).toNat = m := by omega
    rw [e1, e2]
  unfold znw
  rw [h1]
  have := zah (n := ((n ^^^ m : Nat) : Int)) (by omega) (by omega)
  unfold w64 at this
  rw [this]
  omega
theorem zd7 {a n : Int} (ha : 0 ≤ a) (hn : 0 < n) : 0 ≤ Int.tmod a n ∧ Int.tmod a n < n := ⟨Int.tmod_nonneg n ha, Int.tmod_lt_of_pos a hn⟩
def zde (r : l30Rd) (p : Int) : Prop := r.b.length ≤ 2000 ∧ 0 ≤ r.p ∧ r.p ≤ p
theorem ze9 (u : UInt8) : 0 ≤ ((UInt8.toNat u : Nat) : Int) ∧ ((UInt8.toNat u : Nat) : Int) ≤ 255 := by
  have := UInt8.toNat_lt u
  omega
theorem zg8 {a n : Int} (ha : 0 ≤ a) (hn : 0 < n) : 0 ≤ Int.tdiv a n ∧ Int.tdiv a n ≤ a := ⟨Int.tdiv_nonneg ha (by omega), Int.tdiv_le_self n ha⟩
theorem zdF {r : l30Rd} {n p : Int} (h : zde r p) (hp : p ≤ 1099511627776) (hn : 0 < n) (hn' : n ≤ 1073741824) : ∃ k, zaL r n = some (k, r.p + 1) ∧ 0 ≤ k ∧ k < n := by
  obtain ⟨hb, h0, h1⟩ := h
  unfold zaL
  have e1 : w64 (r.p + 1) = r.p + 1 := zah (by omega) (by omega)
  have e2 : w64 (r.p + 1 - 1) = r.p := by rw [zah (by omega) (by omega)]; omega
  simp only [jn, e1, e2]
  rw [decide_eq_false (show ¬ n < 1 by omega), cond_false]
  cases hl : (((r.b.length : Int)) == (0 : Int)) with
  | true => exact ⟨0, rfl, by omega, hn⟩
  | false =>
    have hlen : 0 < (r.b.length : Int) := by
      have : (r.b.length : Int) ≠ 0 := by simpa using hl
      omega
    rw [cond_false]
    by_cases hlt : r.p < (r.b.length : Int)
    · obtain ⟨u, hu⟩ := zfK h0 hlt
      obtain ⟨u0, u1⟩ := ze9 u
      rw [decide_eq_true hlt, cond_true, hu, Option.bind_some, if_neg (by omega), Option.bind_some, zah (by omega) (by omega)]
      exact ⟨_, rfl, zd7 u0 hn⟩
    · rw [decide_eq_false hlt, cond_false, if_neg (by omega), Option.bind_some]
      obtain ⟨a0, a1⟩ := zd7 h0 hlen
      obtain ⟨u, hu⟩ := zfK a0 a1
      obtain ⟨u0, u1⟩ := ze9 u
      have e3 : w64 (r.p * 7) = r.p * 7 := zah (by omega) (by omega)
      have e4 : w64 (r.p * 7 + 3) = r.p * 7 + 3 := zah (by omega) (by omega)
      obtain ⟨b0, b1⟩ := zd7 (show 0 ≤ r.p * 7 + 3 by omega) hlen
      obtain ⟨v, hv⟩ := zfK b0 b1
      obtain ⟨v0, v1⟩ := ze9 v
      obtain ⟨d0, d1⟩ := zg8 h0 hlen
      rw [hu, Option.bind_some, if_neg (by omega), Option.bind_some, e3, e4, hv, Option.bind_some, Option.bind_some, Option.bind_some]
      rw [zah (n := (UInt8.toNat u : Int)) (by omega) (by omega), zah (n := (UInt8.toNat u : Int) * 131) (by omega) (by omega),
        zah (n := (UInt8.toNat v : Int)) (by omega) (by omega), zah (n := (UInt8.toNat v : Int) * 1117) (by omega) (by omega),
        zah (n := (UInt8.toNat u : Int) * 131 + (UInt8.toNat v : Int) * 1117) (by omega) (by omega), zah (n := r.p * 29) (by omega) (by omega),
        zah (n := (UInt8.toNat u : Int) * 131 + (UInt8.toNat v : Int) * 1117 + r.p * 29) (by omega) (by omega),
        zah (n := Int.tdiv r.p (r.b.length : Int)) (by omega) (by omega), zah (n := Int.tdiv r.p (r.b.length : Int) * 53) (by omega) (by omega),
        zah (n := (UInt8.toNat u : Int) * 131 + (UInt8.toNat v : Int) * 1117 + r.p * 29 + Int.tdiv r.p (r.b.length : Int) * 53) (by omega) (by omega)]
      obtain ⟨q0, q1⟩ := zg8 (a := (UInt8.toNat u : Int) * 131 + (UInt8.toNat v : Int) * 1117 + r.p * 29 + Int.tdiv r.p (r.b.length : Int) * 53) (n := 64) (by omega) (by omega)
      rw [zah (n := Int.tdiv ((UInt8.toNat u : Int) * 131 + (UInt8.toNat v : Int) * 1117 + r.p * 29 + Int.tdiv r.p (r.b.length : Int) * 53) 64) (by omega) (by omega)]
      exact ⟨_, rfl, zd7 (zkx (by omega) (by omega) (by omega) (by omega)).1 hn⟩
theorem zde.on {r : l30Rd} {p q : Int} (h : zde r p) (k : Int) (hk : 0 ≤ k) (hq : r.p + k ≤ q) : zde ⟨r.b, r.p + k⟩ q := ⟨h.1, by have := h.2.1; show 0 ≤ r.p + k; omega, hq⟩
theorem zmC {code : List Byte} (h : code.length ≤ 1048576) : ∃ b : List Byte, zdx code = some ⟨b, 0⟩ ∧ b.length ≤ 2000 := by
  unfold zdx
  simp only [jn]
  by_cases hl : (2000 : Int) < (code.length : Int)
  · rw [decide_eq_true hl, cond_true]
    have : slM code 0 2000 = some (code.take 2000) := zhj (i := 2000) (by omega)
    rw [this, Option.bind_some]
    exact ⟨_, rfl, by simp; omega⟩
  · rw [decide_eq_false hl, cond_false]
    exact ⟨_, rfl, by omega⟩
theorem zjV {xs ys : List Str} (h : xs.length ≤ zam) : zfz xs ys = some (xs == ys) := by
  unfold zfz
  simp only [zgI, jn, zas]
  by_cases hn : xs.length = ys.length
  · rw [hn, beq_self_eq_true, Bool.not_true, cond_false, ← hn]
    rw [zfJ (α := Str) (r0 := some false) (Z := some true) (f := fun m i => zb6 xs ys (fun _ _ => some true) m false i) hn (fun m i x y hx hy => by
      simp only [zb6, zaq hx, zae hx, zae hy, cond_true, Option.bind_some, zag (zav hx) h, bne]
      cases x == y <;> rfl) (fun m => by simp only [zb6, zai, cond_false]) (by omega)]
    cases xs == ys <;> rfl
  · rw [beq_false_of_ne hn, Bool.not_false, cond_true, beq_false_of_ne (fun e => hn (by rw [e]))]
def zfG : List Str → List Str → Int
  | [], _ => 0
  | _ :: _, [] => 0
  | x :: xs, y :: ys => if x == y then zfG xs ys + 1 else zn7 (zfG xs (y :: ys)) (zfG (x :: xs) ys)
termination_by a b => a.length + b.length
theorem zjn (b : List Str) : zfG [] b = 0 := by rw [zfG]
theorem zh6 (a : List Str) : zfG a [] = 0 := by cases a <;> rw [zfG]
theorem zh7 (x y : Str) (xs ys : List Str) : zfG (x :: xs) (y :: ys) = if x == y then zfG xs ys + 1 else zn7 (zfG xs (y :: ys)) (zfG (x :: xs) ys) := by rw [zfG]
theorem zcJ : ∀ (n : Nat) (a b : List Str), a.length + b.length ≤ n → 0 ≤ zfG a b ∧ zfG a b ≤ a.length
  | _, [], b, _ => by rw [zjn]; simp
  | _, x :: xs, [], _ => by rw [zh6]; simp; omega
  | 0, x :: xs, y :: ys, h => by simp at h
  | n + 1, x :: xs, y :: ys, h => by
    simp only [List.length_cons] at h
    have h1 := zcJ n xs ys (by omega)
    have h2 := zcJ n xs (y :: ys) (by simp; omega)
    have h3 := zcJ n (x :: xs) ys (by simp; omega)
    rw [zh7]
    simp only [List.length_cons] at *
    split
    · omega
    · unfold zn7; split <;> omega
theorem zmD (a b : List Str) : 0 ≤ zfG a b := (zcJ _ a b (Nat.le_refl _)).1
theorem zmE (a b : List Str) : zfG a b ≤ a.length := (zcJ _ a b (Nat.le_refl _)).2
def zfO (n : Nat) (g : Nat → Int) : List Int := (List.range n).map g
def zeD (n m : Nat) (f : Nat → Nat → Int) : List (List Int) := (List.range n).map fun i => zfO m (f i)
theorem zjW {n : Nat} {g g' : Nat → Int} (h : ∀ k, k < n → g k = g' k) : zfO n g = zfO n g' := by
  unfold zfO
  exact List.map_congr_left fun k hk => h k (List.mem_range.1 hk)
theorem zd8 {n m : Nat} {f f' : Nat → Nat → Int} (h : ∀ i k, i < n → k < m → f i k = f' i k) : zeD n m f = zeD n m f' := by
  unfold zeD
  exact List.map_congr_left fun i hi => zjW fun k hk => h i k (List.mem_range.1 hi) hk
theorem zf8 {n k : Nat} {g : Nat → Int} (h : k < n) : gi (zfO n g) (k : Int) = some (g k) := zae (by simp [zfO, h])
theorem zf9 {n m i : Nat} {f : Nat → Nat → Int} (h : i < n) : gi (zeD n m f) (i : Int) = some (zfO m (f i)) := zae (by simp [zeD, h])
theorem zjo {n k : Nat} {g : Nat → Int} {v : Int} (h : k < n) : siM (zfO n g) (k : Int) v = some (zfO n fun k' => if k' = k then v else g k') := by
  rw [zcQ (by simp [zfO, h])]
  congr 1
  apply List.ext_getElem?
  intro j
  unfold zfO
  by_cases hj : j = k
  · subst hj
    rw [List.getElem?_set_self (by simp [h])]
    simp [h]
  · rw [List.getElem?_set_ne (Ne.symm hj)]
    by_cases hl : j < n
    · simp [hl, hj]
    · rw [List.getElem?_eq_none (by simp; omega), List.getElem?_eq_none (by simp; omega)]
theorem zjp {n m i : Nat} {f : Nat → Nat → Int} {g : Nat → Int} (h : i < n) : siM (zeD n m f) (i : Int) (zfO m g) = some (zeD n m fun i' => if i' = i then g else f i') := by
  rw [zcQ (by simp [zeD, h])]
  congr 1
  apply List.ext_getElem?
  intro j
  unfold zeD
  by_cases hj : j = i
  · subst hj
    rw [List.getElem?_set_self (by simp [h])]
    simp [h]
  · rw [List.getElem?_set_ne (Ne.symm hj)]
    by_cases hl : j < n
    · simp [hl, hj]
    · rw [List.getElem?_eq_none (by simp; omega), List.getElem?_eq_none (by simp; omega)]
section
variable (a b : List Str)
def zaW (i k : Nat) : Int := zfG (a.drop i) (b.drop k)
def za5 (i k i' k' : Nat) : Int := if i < i' ∨ (i = i' ∧ k ≤ k') then zaW a b i' k' else 0
def znn : List (List Int) := zeD (a.length + 1) (b.length + 1) (zaW a b)
end
section
variable {a b : List Str}
theorem zky (i : Nat) : zaW a b i b.length = 0 := by unfold zaW; rw [List.drop_length, zh6]
theorem zjX (k : Nat) : zaW a b a.length k = 0 := by unfold zaW; rw [List.drop_length, zjn]
theorem zjq (i k : Nat) : 0 ≤ zaW a b i k := zmD _ _
theorem zjr (i k : Nat) : zaW a b i k ≤ a.length := by
  have := zmE (a.drop i) (b.drop k)
  unfold zaW
  simp only [List.length_drop] at this
  omega
theorem zg9 {i k : Nat} {x y : Str} (hx : a[i]? = some x) (hy : b[k]? = some y) : zaW a b i k = if x == y then zaW a b (i + 1) (k + 1) + 1 else zn7 (zaW a b (i + 1) k) (zaW a b i (k + 1)) := by
  have hi := zav hx
  have hk := zav hy
  have ex : a[i] = x := by rw [List.getElem?_eq_getElem hi] at hx; exact Option.some.inj hx
  have ey : b[k] = y := by rw [List.getElem?_eq_getElem hk] at hy; exact Option.some.inj hy
  unfold zaW
  rw [List.drop_eq_getElem_cons hi, List.drop_eq_getElem_cons hk, zh7, ex, ey]
theorem zdN {i k : Nat} {v : Int} (hv : v = zaW a b i k) (n m : Nat) : zeD n m (fun i' => if i' = i then (fun k' => if k' = k then v else za5 a b i (k + 1) i k') else za5 a b i (k + 1) i') = zeD n m (za5 a b i k) := by
  refine zd8 fun i' k' _ _ => ?_
  by_cases h1 : i' = i
  · subst h1
    rw [if_pos rfl]
    by_cases h2 : k' = k
    · subst h2
      rw [if_pos rfl, hv]
      simp [za5]
    · rw [if_neg h2]
      simp only [za5, Nat.lt_irrefl, false_or, true_and]
      by_cases h3 : k + 1 ≤ k'
      · rw [if_pos h3, if_pos (by omega)]
      · rw [if_neg h3, if_neg (by omega)]
  · rw [if_neg h1]
    simp only [za5]
    by_cases h3 : i < i'
    · rw [if_pos (.inl h3), if_pos (.inl h3)]
    · rw [if_neg (by omega), if_neg (by omega)]
theorem zha (i : Nat) : zeD (a.length + 1) (b.length + 1) (za5 a b (i + 1) 0) = zeD (a.length + 1) (b.length + 1) (za5 a b i b.length) := by
  refine zd8 fun i' k' _ hk => ?_
  simp only [za5, Nat.zero_le, and_true]
  by_cases h : i < i'
  · rw [if_pos (by omega), if_pos (.inl h)]
  · rw [if_neg (by omega)]
    by_cases h2 : i = i' ∧ b.length ≤ k'
    · rw [if_pos (.inr h2), show k' = b.length by omega, zky]
    · rw [if_neg (by omega)]
theorem zga : zeD (a.length + 1) (b.length + 1) (fun _ _ => 0) = zeD (a.length + 1) (b.length + 1) (za5 a b a.length 0) := by
  refine zd8 fun i' k' hi _ => ?_
  simp only [za5, Nat.zero_le, and_true]
  by_cases h : a.length < i' ∨ a.length = i'
  · rw [if_pos h, show i' = a.length by omega, zjX]
  · rw [if_neg h]
theorem zh8 : zeD (a.length + 1) (b.length + 1) (za5 a b 0 0) = znn a b := by
  refine zd8 fun i' k' _ _ => ?_
  simp only [za5, Nat.zero_le, and_true]
  rw [if_pos (by omega)]
theorem zkz (hb : b.length ≤ zam) (hN : (a.length : Int) + 1 ≤ 9223372036854775807) {i : Nat} (hi : i < a.length) {R : Int → List (List Int) → Option (List (List Int))} : ∀ (k m : Nat), k ≤ b.length → k < m →
    zeu a b (i : Int) R m ((k : Int) - 1) (zeD (a.length + 1) (b.length + 1) (za5 a b i k)) = R (-1) (zeD (a.length + 1) (b.length + 1) (za5 a b i 0))
  | 0, 0, _, h => by omega
  | 0, m + 1, _, _ => by
    simp only [zeu]
    rw [decide_eq_false (by omega)]; rfl
  | k + 1, 0, _, h => by omega
  | k + 1, m + 1, hk, hm => by
    unfold zam at hb
    have hx : a[i]? = some a[i] := List.getElem?_eq_getElem hi
    have hy : b[k]? = some b[k] := List.getElem?_eq_getElem (by omega)
    have hst := zg9 hx hy
    have e1 : (((k + 1 : Nat) : Int) - 1) = (k : Int) := by omega
    have e2 : w64 ((i : Int) + 1) = ((i + 1 : Nat) : Int) := by rw [zah (by omega) (by omega)]; omega
    have e3 : w64 ((k : Int) + 1) = ((k + 1 : Nat) : Int) := by rw [zah (by omega) (by omega)]; omega
    have e4 : w64 ((k : Int) - 1) = (k : Int) - 1 := zah (by omega) (by omega)
    have s1 : za5 a b i (k + 1) (i + 1) (k + 1) = zaW a b (i + 1) (k + 1) := by simp [za5]
    have s2 : za5 a b i (k + 1) (i + 1) k = zaW a b (i + 1) k := by simp [za5]
    have s3 : za5 a b i (k + 1) i (k + 1) = zaW a b i (k + 1) := by simp [za5]
    have lo := zjq (a := a) (b := b) (i + 1) (k + 1)
    have hi' := zjr (a := a) (b := b) (i + 1) (k + 1)
    have ih := zkz (by unfold zam; exact hb) hN hi (R := R) k m (by omega) (by omega)
    simp only [zeu, jn, e1, e2, e3, e4, zae hx, zae hy, Option.bind_some, decide_eq_true (show (0 : Int) ≤ (k : Int) by omega), cond_true,
      zf9 (show i < a.length + 1 by omega), zf9 (show i + 1 < a.length + 1 by omega), zf8 (show k < b.length + 1 by omega), zf8 (show k + 1 < b.length + 1 by omega), s1, s2, s3,
      zjo (show k < b.length + 1 by omega), zjp (show i < a.length + 1 by omega)]
    cases he : a[i] == b[k] with
    | true =>
      rw [he, if_pos rfl] at hst
      rw [cond_true, zah (by omega) (by omega), zdN hst.symm]
      exact ih
    | false =>
      rw [he, if_neg (by simp)] at hst
      rw [cond_false, zdN hst.symm]
      exact ih
theorem zkA (hb : b.length ≤ zam) (hN : (a.length : Int) + 1 ≤ 9223372036854775807) (hNb : (b.length : Int) + 1 ≤ 9223372036854775807) {R : Int → List (List Int) → Option (List (List Int))} : ∀ (i m : Nat), i ≤ a.length → i < m →
    zdd a b R m ((i : Int) - 1) (zeD (a.length + 1) (b.length + 1) (za5 a b i 0)) = R (-1) (zeD (a.length + 1) (b.length + 1) (za5 a b 0 0))
  | 0, 0, _, h => by omega
  | 0, m + 1, _, _ => by
    simp only [zdd]
    rw [decide_eq_false (by omega)]; rfl
  | i + 1, 0, _, h => by omega
  | i + 1, m + 1, hi, hm => by
    have e1 : (((i + 1 : Nat) : Int) - 1) = (i : Int) := by omega
    have e2 : w64 ((b.length : Int) - 1) = (b.length : Int) - 1 := zah (by omega) (by omega)
    have e3 : w64 ((i : Int) - 1) = (i : Int) - 1 := zah (by omega) (by omega)
    simp only [zdd, jn, e1, e2, decide_eq_true (show (0 : Int) ≤ (i : Int) by omega), cond_true]
    rw [zha, zkz hb hN (by omega) b.length _ (Nat.le_refl _) (by omega), e3]
    exact zkA hb hN hNb i m (by omega) (by omega)
theorem zkB (hb : b.length ≤ 1048576) {N : Nat} (hN : N ≤ 1048576) {q : List (List Int)} (hq : q.length = N) {R : Int → List (List Int) → Option (List (List Int))} : ∀ (n i m : Nat), i + n = N → n < m →
    zev b q R m (i : Int) ((List.range i).map (fun _ => zfO (b.length + 1) fun _ => 0) ++ List.replicate n []) = R (N : Int) (zeD N (b.length + 1) fun _ _ => 0)
  | n, i, 0, _, h => by omega
  | 0, i, m + 1, hi, _ => by
    simp only [zev]
    rw [hq, decide_eq_false (by omega), show i = N by omega]
    simp [zeD]
  | n + 1, i, m + 1, hi, hm => by
    have e1 : w64 ((b.length : Int) + 1) = ((b.length + 1 : Nat) : Int) := by rw [zah (by omega) (by omega)]; omega
    have e2 : w64 ((i : Int) + 1) = ((i + 1 : Nat) : Int) := by rw [zah (by omega) (by omega)]; omega
    have hl : ((List.range i).map (fun _ => zfO (b.length + 1) fun _ => 0) ++ List.replicate (n + 1) []).length = i + (n + 1) := by simp
    obtain ⟨u, hu⟩ : ∃ u, ((List.range i).map (fun _ => zfO (b.length + 1) fun _ => 0) ++ List.replicate (n + 1) ([] : List Int))[i]? = some u := ⟨_, List.getElem?_eq_getElem (by omega)⟩
    simp only [zev, hq, e1, e2, decide_eq_true (show (i : Int) < (N : Int) by omega), cond_true, zjD (show b.length + 1 ≤ lim by unfold lim; omega), Option.bind_some, zae hu]
    rw [zcQ (by rw [hl]; omega), Option.bind_some]
    have hset : ((List.range i).map (fun _ => zfO (b.length + 1) fun _ => 0) ++ List.replicate (n + 1) []).set i (List.replicate (b.length + 1) (0 : Int)) = (List.range (i + 1)).map (fun _ => zfO (b.length + 1) fun _ => 0) ++ List.replicate n [] := by
      rw [List.set_append, if_neg (by simp)]
      have hr : zfO (b.length + 1) (fun _ => 0) = List.replicate (b.length + 1) (0 : Int) := by
        unfold zfO
        rw [List.map_const', List.length_range]
      simp [List.range_succ, List.replicate_succ, hr]
    rw [hset]
    exact zkB hb hN hq n (i + 1) m (by omega) (by omega)
theorem zmF (ha : a.length ≤ 1000) (hb : b.length ≤ 1000) : zjE a b = some (znn a b) := by
  unfold zjE
  have e1 : w64 ((a.length : Int) + 1) = ((a.length + 1 : Nat) : Int) := by rw [zah (by omega) (by omega)]; omega
  have e2 : w64 ((a.length : Int) - 1) = (a.length : Int) - 1 := zah (by omega) (by omega)
  rw [e1, zjD (by unfold lim; omega), Option.bind_some]
  simp only [jn, e2]
  have h1 := zkB (b := b) (by omega) (N := a.length + 1) (by omega) (q := List.replicate (a.length + 1) []) (by simp)
    (R := fun y6 y7 => zdd a b (fun y27 y29 => some y29) (((a.length : Int) - 1 + 1 - 0).toNat + 1) ((a.length : Int) - 1) y7) (a.length + 1) 0 (((List.replicate (a.length + 1) ([] : List Int)).length - (0 : Int)).toNat + 1) (by omega) (by simp)
  simp only [List.range_zero, List.map_nil, List.nil_append] at h1
  refine h1.trans ?_
  rw [zga, zkA (by unfold zam; omega) (by omega) (by omega) a.length _ (Nat.le_refl _) (by omega), zh8]
theorem zkC (hb : b.length ≤ zam) (hN : (a.length : Int) + 1 ≤ 9223372036854775807) {i : Nat} (hi : i < a.length) {R : Int → List (List Int) → Option (List (List Int))} : ∀ (k m : Nat), k ≤ b.length → k < m →
    zb2 a b (i : Int) R m ((k : Int) - 1) (zeD (a.length + 1) (b.length + 1) (za5 a b i k)) = R (-1) (zeD (a.length + 1) (b.length + 1) (za5 a b i 0))
  | 0, 0, _, h => by omega
  | 0, m + 1, _, _ => by
    simp only [zb2]
    rw [decide_eq_false (by omega)]; rfl
  | k + 1, 0, _, h => by omega
  | k + 1, m + 1, hk, hm => by
    unfold zam at hb
    have hx : a[i]? = some a[i] := List.getElem?_eq_getElem hi
    have hy : b[k]? = some b[k] := List.getElem?_eq_getElem (by omega)
    have hst := zg9 hx hy
    have e1 : (((k + 1 : Nat) : Int) - 1) = (k : Int) := by omega
    have e2 : w64 ((i : Int) + 1) = ((i + 1 : Nat) : Int) := by rw [zah (by omega) (by omega)]; omega
    have e3 : w64 ((k : Int) + 1) = ((k + 1 : Nat) : Int) := by rw [zah (by omega) (by omega)]; omega
    have e4 : w64 ((k : Int) - 1) = (k : Int) - 1 := zah (by omega) (by omega)
    have s1 : za5 a b i (k + 1) (i + 1) (k + 1) = zaW a b (i + 1) (k + 1) := by simp [za5]
    have s2 : za5 a b i (k + 1) (i + 1) k = zaW a b (i + 1) k := by simp [za5]
    have s3 : za5 a b i (k + 1) i (k + 1) = zaW a b i (k + 1) := by simp [za5]
    have lo := zjq (a := a) (b := b) (i + 1) (k + 1)
    have hi' := zjr (a := a) (b := b) (i + 1) (k + 1)
    have ih := zkC (by unfold zam; exact hb) hN hi (R := R) k m (by omega) (by omega)
    simp only [zb2, jn, e1, e2, e3, e4, zae hx, zae hy, Option.bind_some, decide_eq_true (show (0 : Int) ≤ (k : Int) by omega), cond_true,
      zf9 (show i < a.length + 1 by omega), zf9 (show i + 1 < a.length + 1 by omega), zf8 (show k < b.length + 1 by omega), zf8 (show k + 1 < b.length + 1 by omega), s1, s2, s3,
      zjo (show k < b.length + 1 by omega), zjp (show i < a.length + 1 by omega)]
    cases he : a[i] == b[k] with
    | true =>
      rw [he, if_pos rfl] at hst
      rw [cond_true, zah (by omega) (by omega), zdN hst.symm]
      exact ih
    | false =>
      rw [he, if_neg (by simp)] at hst
      rw [cond_false]
      unfold zn7 at hst
      by_cases hc : zaW a b i (k + 1) ≤ zaW a b (i + 1) k
      · rw [if_neg (by omega)] at hst
        rw [decide_eq_true hc, cond_true, zdN hst.symm]
        exact ih
      · rw [if_pos (by omega)] at hst
        rw [decide_eq_false hc, cond_false, zdN hst.symm]
        exact ih
theorem zkD (hb : b.length ≤ zam) (hN : (a.length : Int) + 1 ≤ 9223372036854775807) (hNb : (b.length : Int) + 1 ≤ 9223372036854775807) {R : Int → List (List Int) → Option (List (List Int))} : ∀ (i m : Nat), i ≤ a.length → i < m →
    zbg a b R m ((i : Int) - 1) (zeD (a.length + 1) (b.length + 1) (za5 a b i 0)) = R (-1) (zeD (a.length + 1) (b.length + 1) (za5 a b 0 0))
  | 0, 0, _, h => by omega
  | 0, m + 1, _, _ => by
    simp only [zbg]
    rw [decide_eq_false (by omega)]; rfl
  | i + 1, 0, _, h => by omega
  | i + 1, m + 1, hi, hm => by
    have e1 : (((i + 1 : Nat) : Int) - 1) = (i : Int) := by omega
    have e2 : w64 ((b.length : Int) - 1) = (b.length : Int) - 1 := zah (by omega) (by omega)
    have e3 : w64 ((i : Int) - 1) = (i : Int) - 1 := zah (by omega) (by omega)
    simp only [zbg, jn, e1, e2, decide_eq_true (show (0 : Int) ≤ (i : Int) by omega), cond_true]
    rw [zha, zkC hb hN (by omega) b.length _ (Nat.le_refl _) (by omega), e3]
    exact zkD hb hN hNb i m (by omega) (by omega)
theorem zkE (ha : a.length ≤ 1000) (hb : b.length ≤ 1000) {R : List (List Int) → Int → Option (List (List Int))} : ∀ (n i m : Nat), i + n = a.length + 1 → n < m →
    zb3 a b R m ((List.range i).map (fun _ => zfO (b.length + 1) fun _ => 0)) (i : Int) = R (zeD (a.length + 1) (b.length + 1) fun _ _ => 0) ((a.length + 1 : Nat) : Int)
  | n, i, 0, _, h => by omega
  | 0, i, m + 1, hi, _ => by
    simp only [zb3]
    rw [decide_eq_false (by omega), show i = a.length + 1 by omega]
    simp [zeD]
  | n + 1, i, m + 1, hi, hm => by
    have e1 : w64 ((b.length : Int) + 1) = ((b.length + 1 : Nat) : Int) := by rw [zah (by omega) (by omega)]; omega
    have e2 : w64 ((i : Int) + 1) = ((i + 1 : Nat) : Int) := by rw [zah (by omega) (by omega)]; omega
    have hr : zfO (b.length + 1) (fun _ => 0) = List.replicate (b.length + 1) (0 : Int) := by
      unfold zfO
      rw [List.map_const', List.length_range]
    simp only [zb3, e1, e2, decide_eq_true (show (i : Int) ≤ (a.length : Int) by omega), cond_true, zjD (show b.length + 1 ≤ lim by unfold lim; omega), Option.bind_some]
    rw [zfI (by simp [lim]; omega), Option.bind_some]
    have hset : (List.range i).map (fun _ => zfO (b.length + 1) fun _ => 0) ++ [List.replicate (b.length + 1) (0 : Int)] = (List.range (i + 1)).map (fun _ => zfO (b.length + 1) fun _ => 0) := by
      simp [List.range_succ, hr]
    rw [hset]
    exact zkE ha hb n (i + 1) m (by omega) (by omega)
theorem zmG (ha : a.length ≤ 1000) (hb : b.length ≤ 1000) : zfv a b = some (znn a b) := by
  unfold zfv
  have e2 : w64 ((a.length : Int) - 1) = (a.length : Int) - 1 := zah (by omega) (by omega)
  simp only [jn, e2]
  have h1 := zkE (a := a) (b := b) ha hb
    (R := fun y3 y6 => zbg a b (fun y28 y30 => some y30) (((a.length : Int) - 1 + 1 - 0).toNat + 1) ((a.length : Int) - 1) y3) (a.length + 1) 0 (((a.length : Int) + 1 - 0).toNat + 1) (by omega) (by omega)
  simp only [List.range_zero, List.map_nil] at h1
  refine h1.trans ?_
  rw [zga, zkD (by unfold zam; omega) (by omega) (by omega) a.length _ (Nat.le_refl _) (by omega), zh8]
end
def mtF : List Str → List Str → Nat → List Int
  | [], _, _ => []
  | _ :: xs, [], k => -1 :: mtF xs [] k
  | x :: xs, y :: ys, k => if x == y then (k : Int) :: mtF xs ys (k + 1) else if zfG (x :: xs) ys ≤ zfG xs (y :: ys) then -1 :: mtF xs (y :: ys) k else mtF (x :: xs) ys (k + 1)
termination_by a b _ => a.length + b.length
theorem zhT (b : List Str) (k : Nat) : mtF [] b k = [] := by rw [mtF]
theorem zgV (x : Str) (xs : List Str) (k : Nat) : mtF (x :: xs) [] k = -1 :: mtF xs [] k := by rw [mtF]
theorem zgK (x y : Str) (xs ys : List Str) (k : Nat) : mtF (x :: xs) (y :: ys) k = if x == y then (k : Int) :: mtF xs ys (k + 1) else if zfG (x :: xs) ys ≤ zfG xs (y :: ys) then -1 :: mtF xs (y :: ys) k else mtF (x :: xs) ys (k + 1) := by rw [mtF]
def mt2 (a b : List Str) : List Int := mtF a b 0
theorem zlc {xs : List Int} {x : Int} (h : xs.length ≤ 1000000) : apM xs [x] = some (xs ++ [x]) := zfI (by simp [lim]; omega)
section
variable {a b : List Str}
theorem zhB {i k : Nat} (hi : i ≤ a.length) (hk : k ≤ b.length) : ∃ r, gi (znn a b) (i : Int) = some r ∧ gi r (k : Int) = some (zaW a b i k) :=
  ⟨_, zf9 (by omega), zf8 (by omega)⟩
theorem zbB {i : Nat} (h : i < a.length) : a.drop i = a[i] :: a.drop (i + 1) := List.drop_eq_getElem_cons h
theorem zh9 (ha : a.length ≤ 1000) (hb : b.length ≤ 1000) : ∀ (m i k : Nat) (out : List Int), (a.length - i) + (b.length - k) < m → i ≤ a.length → k ≤ b.length → out.length = i →
    zef a b (znn a b) (fun y5 _ _ => some y5) m out (i : Int) (k : Int) = some (out ++ mtF (a.drop i) (b.drop k) k)
  | 0, i, k, out, hm, _, _, _ => by omega
  | m + 1, i, k, out, hm, hi, hk, ho => by
    have e2 : w64 ((i : Int) + 1) = ((i + 1 : Nat) : Int) := by rw [zah (by omega) (by omega)]; omega
    have e3 : w64 ((k : Int) + 1) = ((k + 1 : Nat) : Int) := by rw [zah (by omega) (by omega)]; omega
    simp only [zef, jn, e2, e3]
    by_cases hil : i < a.length
    case neg =>
      rw [decide_eq_false (by omega), cond_false, show i = a.length by omega, List.drop_length, zhT, List.append_nil]
    have hx : a[i]? = some a[i] := List.getElem?_eq_getElem hil
    rw [decide_eq_true (by omega), cond_true, zbB hil]
    by_cases hkl : k < b.length
    case neg =>
      have hke : k = b.length := by omega
      rw [decide_eq_false (by omega), cond_false, cond_false, show ((k : Int) == (b.length : Int)) = true by simp [hke], cond_true, cond_true, zlc (by omega), Option.bind_some,
        zh9 ha hb m (i + 1) k _ (by omega) (by omega) hk (by simp [ho])]
      rw [hke, List.drop_length, zgV]
      simp
    have hy : b[k]? = some b[k] := List.getElem?_eq_getElem hkl
    rw [decide_eq_true (by omega), cond_true, zae hx, Option.bind_some, zae hy, Option.bind_some, zbB hkl, zgK]
    cases he : a[i] == b[k] with
    | true =>
      rw [cond_true, zlc (by omega), Option.bind_some, zh9 ha hb m (i + 1) (k + 1) _ (by omega) (by omega) (by omega) (by simp [ho])]
      simp
    | false =>
      rw [cond_false, show ((k : Int) == (b.length : Int)) = false by simp; omega, cond_false]
      obtain ⟨r1, h1, h2⟩ := zhB (a := a) (b := b) (i := i + 1) (k := k) (by omega) (by omega)
      obtain ⟨r3, h3, h4⟩ := zhB (a := a) (b := b) (i := i) (k := k + 1) (by omega) (by omega)
      rw [h1, Option.bind_some, h2, Option.bind_some, h3, Option.bind_some, h4, Option.bind_some]
      have c1 : zaW a b i (k + 1) = zfG (a[i] :: a.drop (i + 1)) (b.drop (k + 1)) := by unfold zaW; rw [zbB hil]
      have c2 : zaW a b (i + 1) k = zfG (a.drop (i + 1)) (b[k] :: b.drop (k + 1)) := by unfold zaW; rw [zbB hkl]
      rw [← c1, ← c2]
      by_cases hc : zaW a b i (k + 1) ≤ zaW a b (i + 1) k
      · rw [decide_eq_true hc, cond_true, zlc (by omega), Option.bind_some, zh9 ha hb m (i + 1) k _ (by omega) (by omega) hk (by simp [ho]), if_neg (by simp), if_pos hc, zbB hkl]
        simp
      · rw [decide_eq_false hc, cond_false, zh9 ha hb m i (k + 1) _ (by omega) hi (by omega) ho, if_neg (by simp), if_neg hc, zbB hil]
theorem zia (ha : a.length ≤ 1000) (hb : b.length ≤ 1000) : zgT a b = some (mt2 a b) := by
  unfold zgT
  rw [zmF ha hb, Option.bind_some]
  simp only [jn]
  have := zh9 ha hb (a.length + b.length + 1) 0 0 [] (by omega) (by omega) (by omega) rfl
  simpa [mt2] using this
theorem zib (ha : a.length ≤ 1000) (hb : b.length ≤ 1000) : ∀ (m i k : Nat) (out : List Int), (a.length - i) + (b.length - k) < m → i ≤ a.length → k ≤ b.length → out.length = i →
    zcZ a b (znn a b) (fun y5 _ _ => some y5) m out (k : Int) (i : Int) = some (out ++ mtF (a.drop i) (b.drop k) k)
  | 0, i, k, out, hm, _, _, _ => by omega
  | m + 1, i, k, out, hm, hi, hk, ho => by
    have e2 : w64 ((i : Int) + 1) = ((i + 1 : Nat) : Int) := by rw [zah (by omega) (by omega)]; omega
    have e3 : w64 ((k : Int) + 1) = ((k + 1 : Nat) : Int) := by rw [zah (by omega) (by omega)]; omega
    simp only [zcZ, jn, e2, e3]
    by_cases hil : i < a.length
    case neg =>
      rw [decide_eq_false (by omega), cond_false, show i = a.length by omega, List.drop_length, zhT, List.append_nil]
    have hx : a[i]? = some a[i] := List.getElem?_eq_getElem hil
    rw [decide_eq_true (by omega), cond_true, zbB hil]
    by_cases hkl : k < b.length
    case neg =>
      have hke : k = b.length := by omega
      rw [decide_eq_false (by omega), cond_false, cond_false, decide_eq_true (by omega), cond_true, cond_true, zlc (by omega), Option.bind_some,
        zib ha hb m (i + 1) k _ (by omega) (by omega) hk (by simp [ho])]
      rw [hke, List.drop_length, zgV]
      simp
    have hy : b[k]? = some b[k] := List.getElem?_eq_getElem hkl
    rw [decide_eq_true (by omega), cond_true, zae hx, Option.bind_some, zae hy, Option.bind_some, zbB hkl, zgK]
    cases he : a[i] == b[k] with
    | true =>
      rw [cond_true, zlc (by omega), Option.bind_some, zib ha hb m (i + 1) (k + 1) _ (by omega) (by omega) (by omega) (by simp [ho])]
      simp
    | false =>
      rw [cond_false, decide_eq_false (by omega), cond_false]
      obtain ⟨r1, h1, h2⟩ := zhB (a := a) (b := b) (i := i + 1) (k := k) (by omega) (by omega)
      obtain ⟨r3, h3, h4⟩ := zhB (a := a) (b := b) (i := i) (k := k + 1) (by omega) (by omega)
      rw [h1, Option.bind_some, h2, Option.bind_some, h3, Option.bind_some, h4, Option.bind_some]
      have c1 : zaW a b i (k + 1) = zfG (a[i] :: a.drop (i + 1)) (b.drop (k + 1)) := by unfold zaW; rw [zbB hil]
      have c2 : zaW a b (i + 1) k = zfG (a.drop (i + 1)) (b[k] :: b.drop (k + 1)) := by unfold zaW; rw [zbB hkl]
      rw [← c1, ← c2]
      by_cases hc : zaW a b i (k + 1) ≤ zaW a b (i + 1) k
      · rw [decide_eq_true hc, cond_true, zlc (by omega), Option.bind_some, zib ha hb m (i + 1) k _ (by omega) (by omega) hk (by simp [ho]), if_neg (by simp), if_pos hc, zbB hkl]
        simp
      · rw [decide_eq_false hc, cond_false, zib ha hb m i (k + 1) _ (by omega) hi (by omega) ho, if_neg (by simp), if_neg hc, zbB hil]
theorem zic (ha : a.length ≤ 1000) (hb : b.length ≤ 1000) : ze5 a b = some (mt2 a b) := by
  unfold ze5
  rw [zmG ha hb, Option.bind_some]
  simp only [jn]
  have := zib ha hb (a.length + b.length + 1) 0 0 [] (by omega) (by omega) (by omega) rfl
  simpa [mt2] using this
end
def Asc (hi : Int) : Int → List Int → Prop
  | _, [] => True
  | lo, x :: l => (x = -1 ∧ Asc hi lo l) ∨ (lo ≤ x ∧ x < hi ∧ Asc hi (x + 1) l)
theorem Asc.mono {hi : Int} : ∀ {l : List Int} {lo lo' : Int}, lo' ≤ lo → Asc hi lo l → Asc hi lo' l
  | [], _, _, _, _ => trivial
  | x :: l, lo, lo', h, .inl ⟨h1, h2⟩ => .inl ⟨h1, Asc.mono h h2⟩
  | x :: l, lo, lo', h, .inr ⟨h1, h2, h3⟩ => .inr ⟨by omega, h2, h3⟩
theorem zf0 : ∀ (n : Nat) (a b : List Str) (k : Nat), a.length + b.length ≤ n → Asc ((k + b.length : Nat) : Int) (k : Int) (mtF a b k) ∧ (mtF a b k).length = a.length
  | _, [], b, k, _ => by rw [zhT]; exact ⟨trivial, rfl⟩
  | 0, x :: xs, b, k, h => by simp at h
  | n + 1, x :: xs, [], k, h => by
    rw [zgV]
    have := zf0 n xs [] k (by simp at h ⊢; omega)
    exact ⟨.inl ⟨rfl, this.1⟩, by simp [this.2]⟩
  | n + 1, x :: xs, y :: ys, k, h => by
    simp only [List.length_cons] at h
    rw [zgK]
    split
    · have := zf0 n xs ys (k + 1) (by omega)
      refine ⟨.inr ⟨Int.le_refl _, by simp only [List.length_cons]; omega, ?_⟩, by simp [this.2]⟩
      have h1 := this.1
      rw [show ((k + (y :: ys).length : Nat) : Int) = ((k + 1 + ys.length : Nat) : Int) by simp only [List.length_cons]; omega, show (k : Int) + 1 = ((k + 1 : Nat) : Int) by omega]
      exact h1
    · split
      · have := zf0 n xs (y :: ys) k (by simp; omega)
        exact ⟨.inl ⟨rfl, this.1⟩, by simp [this.2]⟩
      · have := zf0 n (x :: xs) ys (k + 1) (by simp; omega)
        refine ⟨?_, by simp [this.2]⟩
        have h1 := this.1
        rw [show ((k + (y :: ys).length : Nat) : Int) = ((k + 1 + ys.length : Nat) : Int) by simp only [List.length_cons]; omega]
        exact h1.mono (by omega)
theorem zfk (a b : List Str) : Asc (b.length : Int) 0 (mt2 a b) ∧ (mt2 a b).length = a.length := by
  have := zf0 _ a b 0 (Nat.le_refl _)
  simpa [mt2] using this
theorem Asc.snoc {hi : Int} (h0 : 0 ≤ hi) : ∀ {l : List Int} {lo : Int}, lo ≤ hi → Asc hi lo l → Asc (hi + 1) lo (l ++ [hi])
  | [], lo, h, _ => .inr ⟨h, by omega, trivial⟩
  | x :: l, lo, h, .inl ⟨h1, h2⟩ => .inl ⟨h1, Asc.snoc h0 h h2⟩
  | x :: l, lo, h, .inr ⟨h1, h2, h3⟩ => .inr ⟨h1, by omega, Asc.snoc h0 (by omega) h3⟩
end Go.Vm
namespace Go.Sx
open Go
theorem zhb {R α σ : Type} {xs : List α} {step : σ → α → Option σ} {r0 : Option R} (Inv : Nat → σ → Prop) {f : Nat → σ → Int → Option R} {Z : σ → Option R} {s0 : σ}
    (hs : ∀ m (i : Nat) x s, xs[i]? = some x → Inv i s → (f (m + 1) s (i : Int) = match step s x with | some s' => f m s' ((i + 1 : Nat) : Int) | none => r0) ∧ ∀ s', step s x = some s' → Inv (i + 1) s')
    (he : ∀ m s, Inv xs.length s → f (m + 1) s (xs.length : Int) = Z s) {m : Nat} (hm : xs.length < m) (h0 : Inv 0 s0) :
    f m s0 0 = (match xs.foldlM step s0 with | some s => Z s | none => r0) ∧ ∀ s, xs.foldlM step s0 = some s → Inv xs.length s := by
  have key : ∀ k i m s, i + k = xs.length → k < m → Inv i s → f m s (i : Int) = (match (xs.drop i).foldlM step s with | some s => Z s | none => r0) ∧ ∀ s', (xs.drop i).foldlM step s = some s' → Inv xs.length s' := by
    intro k
    induction k with
    | zero =>
      intro i m s hi hm hI
      obtain ⟨m, rfl⟩ : ∃ q, m = q + 1 := ⟨m - 1, by omega⟩
      have hii : i = xs.length := by omega
      subst hii
      rw [he m s hI, List.drop_length]
      exact ⟨rfl, fun s' h => by have : s = s' := by simpa using h
                                 rw [← this]; exact hI⟩
    | succ k ih =>
      intro i m s hi hm hI
      obtain ⟨m, rfl⟩ : ∃ q, m = q + 1 := ⟨m - 1, by omega⟩
      have hlt : i < xs.length := by omega
      obtain ⟨h1, h2⟩ := hs m i xs[i] s (List.getElem?_eq_getElem hlt) hI
      rw [h1, List.drop_eq_getElem_cons hlt, List.foldlM_cons]
      cases hst : step s xs[i] with
      | none => exact ⟨rfl, fun s' h => by simp at h⟩
      | some s1 =>
        obtain ⟨h3, h4⟩ := ih (i + 1) m s1 (by omega) (by omega) (h2 s1 hst)
        exact ⟨h3, h4⟩
  have := key xs.length 0 m s0 (by omega) hm h0
  simpa using this
theorem zcX {R α : Type} {xs : List α} {p : α → Bool} {r : α → Option R} {Z : Option R} {f : Nat → Int → Option R}
    (hs : ∀ m (i : Nat) x, xs[i]? = some x → f (m + 1) (i : Int) = bif p x then r x else f m ((i + 1 : Nat) : Int)) (he : ∀ m, f (m + 1) (xs.length : Int) = Z) {m : Nat} (hm : xs.length < m) :
    f m 0 = match xs.find? p with | some x => r x | none => Z := by
  have key : ∀ k i m, i + k = xs.length → k < m → f m (i : Int) = match (xs.drop i).find? p with | some x => r x | none => Z := by
    intro k
    induction k with
    | zero =>
      intro i m hi hm
      obtain ⟨m, rfl⟩ : ∃ q, m = q + 1 := ⟨m - 1, by omega⟩
      rw [show i = xs.length by omega, he, List.drop_length]
      rfl
    | succ k ih =>
      intro i m hi hm
      obtain ⟨m, rfl⟩ : ∃ q, m = q + 1 := ⟨m - 1, by omega⟩
      have hlt : i < xs.length := by omega
      rw [hs m i xs[i] (List.getElem?_eq_getElem hlt), List.drop_eq_getElem_cons hlt, List.find?_cons]
      cases p xs[i] with
      | true => rfl
      | false => exact ih (i + 1) m (by omega) (by omega)
  have := key xs.length 0 m (by omega) hm
  simpa using this
end Go.Sx
namespace Go.Vm
open Go Go.Sx
set_option linter.unusedSimpArgs false
set_option linter.unusedVariables false
def lnP (l : List Str) : Part := ⟨false, l, [], [], []⟩
def zbA (o a b : List Str) : Part := bif a == o || a == b then lnP b else bif b == o then lnP a else ⟨true, [], o, a, b⟩
def zgU (out : List Part) (p : Part) : List Part :=
  bif !p.Clash && p.Lines.length == 0 then out else
  match out[out.length - 1]? with
  | some q => bif !p.Clash && !q.Clash then out.set (out.length - 1) ⟨q.Clash, q.Lines ++ p.Lines, q.Old, q.One, q.Two⟩ else out ++ [p]
  | none => out ++ [p]
def PB (n : Nat) (out : List Part) : Prop := out.length ≤ n ∧ ∀ q ∈ out, q.Lines.length ≤ 1000 * n
theorem PB.mono {n m : Nat} {out : List Part} (h : PB n out) (hm : n ≤ m) : PB m out := ⟨Nat.le_trans h.1 hm, fun q hq => Nat.le_trans (h.2 q hq) (Nat.mul_le_mul_left _ hm)⟩
theorem zhC {n : Nat} {out : List Part} {p : Part} (h : PB n out) (hp : p.Lines.length ≤ 1000) : PB (n + 1) (zgU out p) := by
  have happ : PB (n + 1) (out ++ [p]) := ⟨by simp; exact h.1, fun q hq => by
    rcases List.mem_append.1 hq with h1 | h1
    · have := h.2 q h1; omega
    · rw [List.mem_singleton] at h1; rw [h1]; omega⟩
  unfold zgU
  cases (!p.Clash && p.Lines.length == 0) with
  | true => exact h.mono (by omega)
  | false =>
    rw [cond_false]
    split
    · rename_i q hq
      cases (!p.Clash && !q.Clash) with
      | false => exact happ
      | true =>
        rw [cond_true]
        refine ⟨by rw [List.length_set]; have := h.1; omega, fun r hr => ?_⟩
        rcases List.mem_or_eq_of_mem_set hr with h1 | h1
        · have := h.2 r h1; omega
        · rw [h1]
          have := h.2 q (List.mem_of_getElem? hq)
          simp only [List.length_append]
          omega
    · exact happ
theorem zeI {o a b : List Str} (ha : a.length ≤ 1000) (hb : b.length ≤ 1000) : (zbA o a b).Lines.length ≤ 1000 := by
  unfold zbA lnP
  cases (a == o || a == b)
  · cases b == o
    · simp
    · exact ha
  · exact hb
theorem apL {xs ys : List Str} (h : xs.length ≤ 4000000) (h' : ys.length ≤ 1000) : apM xs ys = some (xs ++ ys) := zfI (by simp [lim]; omega)
theorem zkF {o a b : List Str} (ho : o.length ≤ 1000) (ha : a.length ≤ 1000) (hb : b.length ≤ 1000) : zgt o a b = some (zbA o a b) := by
  unfold zgt zbA lnP
  simp only [jn, zf7 (show a.length ≤ zam by unfold zam; omega), zf7 (show b.length ≤ zam by unfold zam; omega), Option.bind_some, apN (show o.length ≤ 1048576 by omega), apN (show a.length ≤ 1048576 by omega), apN (show b.length ≤ 1048576 by omega)]
  cases a == o <;> cases a == b <;> cases b == o <;> rfl
theorem zkG {n : Nat} (h : n ≤ 4000000) (h0 : 0 < n) : w64 ((n : Int) - 1) = ((n - 1 : Nat) : Int) := by rw [zah (by omega) (by omega)]; omega
theorem zjs {n : Nat} {out : List Part} {p : Part} (h : PB n out) (hn : n ≤ 4000) (hp : p.Lines.length ≤ 1000) : zgS out p = some (zgU out p) := by
  have hl := h.1
  unfold zgS zgU
  have hz : (((p.Lines.length : Int)) == (0 : Int)) = (p.Lines.length == 0) := by
    have : ∀ b c : Bool, (b = true ↔ c = true) → b = c := by decide
    apply this; simp
  simp only [jn, hz, show (⟨p.Clash, p.Lines, p.Old, p.One, p.Two⟩ : Part) = p from rfl]
  have happ : apM out [p] = some (out ++ [p]) := zfI (by simp [lim]; omega)
  cases hc : p.Clash with
  | true =>
    simp only [Bool.not_true, Bool.false_and, cond_false, happ, Option.bind_some]
    by_cases h0 : 0 < out.length
    · rw [decide_eq_true (by omega), cond_true, List.getElem?_eq_getElem (by omega)]
    · rw [decide_eq_false (by omega), cond_false, List.getElem?_eq_none (by omega)]
  | false =>
    simp only [Bool.not_false, Bool.true_and, cond_true]
    cases hz2 : (p.Lines.length == 0) with
    | true => rfl
    | false =>
      simp only [cond_false]
      by_cases h0 : 0 < out.length
      · obtain ⟨q, hq⟩ : ∃ q, out[out.length - 1]? = some q := ⟨_, List.getElem?_eq_getElem (by omega)⟩
        have hql := h.2 q (List.mem_of_getElem? hq)
        rw [decide_eq_true (by omega), cond_true, zkG (by omega) h0, zae hq, Option.bind_some, hq]
        cases hqc : q.Clash with
        | true => simp [happ, hqc]
        | false =>
          simp only [hqc, Bool.not_false, cond_true, Option.bind_some]
          rw [apL (by omega) hp, Option.bind_some, zcQ (by omega), Option.bind_some]
      · rw [decide_eq_false (by omega), cond_false, List.getElem?_eq_none (by omega), happ]
        rfl
theorem c1_eq {n : Nat} {out : List Part} {l : List Str} (h : PB n out) (hn : n ≤ 4000) (hp : l.length ≤ 1000) : zbz l out = some (zgU out (lnP l)) := by
  have hl := h.1
  unfold zbz zgU lnP
  have hz : (((l.length : Int)) == (0 : Int)) = (l.length == 0) := by
    have : ∀ b c : Bool, (b = true ↔ c = true) → b = c := by decide
    apply this; simp
  simp only [jn, hz, Bool.not_false, Bool.true_and]
  cases hz2 : (l.length == 0) with
  | true => rfl
  | false =>
    simp only [cond_false]
    have happ : apM out [(⟨false, [], [], [], []⟩ : Part)] = some (out ++ [⟨false, [], [], [], []⟩]) := zfI (by simp [lim]; omega)
    have hat : (out ++ [(⟨false, [], [], [], []⟩ : Part)])[out.length]? = some ⟨false, [], [], [], []⟩ := by simp
    by_cases h0 : 0 < out.length
    · obtain ⟨q, hq⟩ : ∃ q, out[out.length - 1]? = some q := ⟨_, List.getElem?_eq_getElem (by omega)⟩
      have hql := h.2 q (List.mem_of_getElem? hq)
      rw [zkG (by omega) h0, decide_eq_false (by omega), cond_false, zae hq, Option.bind_some, hq]
      cases hqc : q.Clash with
      | true =>
        have e1 : w64 (((out.length - 1 : Nat) : Int) + 1) = (out.length : Int) := by rw [zah (by omega) (by omega)]; omega
        rw [cond_true, happ, Option.bind_some, e1, zae hat, Option.bind_some, apL (by simp) hp, Option.bind_some, Option.bind_some, zcQ (by simp), Option.bind_some]
        simp [hqc]
      | false =>
        rw [cond_false, Option.bind_some, apL (by omega) hp, Option.bind_some, Option.bind_some, zcQ (by omega), Option.bind_some]
        simp [hqc]
    · have e0 : w64 ((out.length : Int) - 1) = -1 := by rw [zah (by omega) (by omega)]; omega
      have e1 : w64 ((-1 : Int) + 1) = (out.length : Int) := by rw [zah (by omega) (by omega)]; omega
      rw [e0, List.getElem?_eq_none (by omega)]
      rw [show decide ((-1 : Int) < 0) = true by decide, cond_true, happ, Option.bind_some, e1, zae hat, Option.bind_some, apL (by simp) hp, Option.bind_some, Option.bind_some, zcQ (by simp), Option.bind_some]
      simp
theorem zjY (out : List Part) (o a b : List Str) : zgU out ⟨true, [], o, a, b⟩ = out ++ [⟨true, [], o, a, b⟩] := by
  unfold zgU
  simp only [Bool.not_true, Bool.false_and, cond_false]
  split <;> rfl
def zaN {α : Type} (xs : List α) (l h : Int) : List α := (xs.take h.toNat).drop l.toNat
theorem zbe {α : Type} (xs : List α) (l h : Int) : (zaN xs l h).length ≤ xs.length := by unfold zaN; simp; omega
def zbG (o a b : List Str) (i x y io ia ib : Int) (out : List Part) : List Part :=
  match o[i.toNat]? with
  | some s => zgU (zgU out (zbA (zaN o io i) (zaN a ia x) (zaN b ib y))) (lnP [s])
  | none => zgU out (zbA (zaN o io i) (zaN a ia x) (zaN b ib y))
def zaU (o a b : List Str) : Int → List Int → List Int → Int → Int → Int → List Part → List Part
  | i, x :: ma, y :: mb, io, ia, ib, out =>
    bif decide (x < 0) || decide (y < 0) then zaU o a b (i + 1) ma mb io ia ib out
    else zaU o a b (i + 1) ma mb (i + 1) (x + 1) (y + 1) (zbG o a b i x y io ia ib out)
  | _, [], _, _, _, _, out => out
  | _, _ :: _, [], _, _, _, out => out
def zaB (o a b : List Str) : List Part := zaU o a b 0 (mt2 o a ++ [(a.length : Int)]) (mt2 o b ++ [(b.length : Int)]) 0 0 0 []
theorem zgb {o a b : List Str} (ha : a.length ≤ 1000) (hb : b.length ≤ 1000) {i x y io ia ib : Int} {n : Nat} {out : List Part} (h : PB n out) : PB (n + 2) (zbG o a b i x y io ia ib out) := by
  have h1 := zhC h (zeI (o := zaN o io i) (Nat.le_trans (zbe a ia x) ha) (Nat.le_trans (zbe b ib y) hb))
  unfold zbG
  split
  · exact zhC h1 (by simp [lnP])
  · exact h1.mono (by omega)
theorem zfP {o a b : List Str} (ha : a.length ≤ 1000) (hb : b.length ≤ 1000) : ∀ (ma mb : List Int) (i io ia ib : Int) (n : Nat) (out : List Part), PB n out → PB (n + 2 * ma.length) (zaU o a b i ma mb io ia ib out)
  | [], mb, i, io, ia, ib, n, out, h => by rw [zaU.eq_def]; exact h.mono (by omega)
  | x :: ma, [], i, io, ia, ib, n, out, h => by rw [zaU.eq_def]; exact h.mono (by omega)
  | x :: ma, y :: mb, i, io, ia, ib, n, out, h => by
    rw [zaU]
    cases (decide (x < 0) || decide (y < 0)) with
    | true => exact (zfP ha hb ma mb _ _ _ _ n out h).mono (by simp; omega)
    | false => exact (zfP ha hb ma mb _ _ _ _ (n + 2) _ (zgb ha hb h)).mono (by simp; omega)
theorem zhD {l : List Int} {i : Nat} {x : Int} (h : l[i]? = some x) : l.drop i = x :: l.drop (i + 1) := by
  have hi := zav h
  rw [List.drop_eq_getElem_cons hi]
  rw [List.getElem?_eq_getElem hi] at h
  rw [Option.some.inj h]
theorem zgc {o a b : List Str} (ho : o.length ≤ 1000) (ha : a.length ≤ 1000) (hb : b.length ≤ 1000) {ma mb : List Int} (hla : ma.length = o.length + 1) (hlb : mb.length = o.length + 1) :
    ∀ (n i m : Nat) (io ia ib : Int) (out : List Part), i + n = o.length + 1 → n < m → Asc ((a.length : Int) + 1) ia (ma.drop i) → Asc ((b.length : Int) + 1) ib (mb.drop i) → 0 ≤ io → io ≤ i → 0 ≤ ia → 0 ≤ ib → PB (2 * i) out →
      zcd o a b ma mb (fun y45 _ _ _ _ => some y45) m out io ia ib (i : Int) = some (zaU o a b i (ma.drop i) (mb.drop i) io ia ib out)
  | n, i, 0, _, _, _, _, _, hm, _, _, _, _, _, _, _ => by omega
  | 0, i, m + 1, io, ia, ib, out, hi, _, _, _, _, _, _, _, _ => by
    simp only [zcd]
    rw [decide_eq_false (by omega), cond_false, List.drop_eq_nil_of_le (by omega), zaU.eq_def]
  | n + 1, i, m + 1, io, ia, ib, out, hi, hm, hA, hB, h0, h1, h2, h3, hP => by
    obtain ⟨x, hx⟩ : ∃ x, ma[i]? = some x := ⟨_, List.getElem?_eq_getElem (by omega)⟩
    obtain ⟨y, hy⟩ : ∃ y, mb[i]? = some y := ⟨_, List.getElem?_eq_getElem (by omega)⟩
    rw [zhD hx] at hA ⊢
    rw [zhD hy] at hB ⊢
    have ei : w64 ((i : Int) + 1) = ((i + 1 : Nat) : Int) := by rw [zah (by omega) (by omega)]; omega
    have ei' : (i : Int) + 1 = ((i + 1 : Nat) : Int) := by omega
    rw [ei'] at ei
    have dn : decide ((-1 : Int) < 0) = true := rfl
    have hstay : ∀ (hA' : Asc ((a.length : Int) + 1) ia (ma.drop (i + 1))) (hB' : Asc ((b.length : Int) + 1) ib (mb.drop (i + 1))), zcd o a b ma mb (fun y45 _ _ _ _ => some y45) m out io ia ib ((i + 1 : Nat) : Int) = some (zaU o a b ((i + 1 : Nat) : Int) (ma.drop (i + 1)) (mb.drop (i + 1)) io ia ib out) :=
      fun hA' hB' => zgc ho ha hb hla hlb n (i + 1) m io ia ib out (by omega) (by omega) hA' hB' h0 (by omega) h2 h3 (hP.mono (by omega))
    rw [zaU]
    simp only [zcd, jn, zae hx, zae hy, Option.bind_some, ei, ei', hla]
    rw [decide_eq_true (show (i : Int) < ((o.length + 1 : Nat) : Int) by omega), cond_true]
    rcases hA with ⟨rfl, hA⟩ | ⟨ha1, ha2, hA⟩
    · rcases hB with ⟨rfl, hB⟩ | ⟨hb1, hb2, hB⟩
      · simp only [dn, cond_true, Bool.true_or]; exact hstay hA hB
      · simp only [dn, cond_true, Bool.true_or]; exact hstay hA (hB.mono (by omega))
    rcases hB with ⟨rfl, hB⟩ | ⟨hb1, hb2, hB⟩
    · rw [decide_eq_false (show ¬ x < 0 by omega), cond_false]
      simp only [dn, cond_true, Bool.false_or]
      exact hstay (hA.mono (by omega)) hB
    rw [decide_eq_false (show ¬ x < 0 by omega), decide_eq_false (show ¬ y < 0 by omega)]
    simp only [cond_false, Bool.or_false]
    have ex : w64 (x + 1) = x + 1 := zah (by omega) (by omega)
    have ey : w64 (y + 1) = y + 1 := zah (by omega) (by omega)
    have c1 := zbe o io i
    have c2 := zbe a ia x
    have c3 := zbe b ib y
    have hP1 := zhC hP (zeI (o := zaN o io i) (Nat.le_trans c2 ha) (Nat.le_trans c3 hb))
    have hS := zgb (o := o) ha hb (i := i) (x := x) (y := y) (io := io) (ia := ia) (ib := ib) hP
    have hfin := zgc ho ha hb hla hlb n (i + 1) m ((i + 1 : Nat) : Int) (x + 1) (y + 1) (zbG o a b i x y io ia ib out) (by omega) (by omega) hA hB (by omega) (by omega) (by omega) (by omega) (hS.mono (by omega))
    rw [zf2 h0 h1 (by omega), Option.bind_some, zf2 h2 ha1 (by omega), Option.bind_some, zf2 h3 hb1 (by omega), Option.bind_some,
      show ((o.take ((i : Int)).toNat).drop io.toNat) = zaN o io i from rfl, show ((a.take x.toNat).drop ia.toNat) = zaN a ia x from rfl, show ((b.take y.toNat).drop ib.toNat) = zaN b ib y from rfl,
      zkF (by omega) (by omega) (by omega), Option.bind_some]
    rw [show (⟨(zbA (zaN o io i) (zaN a ia x) (zaN b ib y)).Clash, (zbA (zaN o io i) (zaN a ia x) (zaN b ib y)).Lines, (zbA (zaN o io i) (zaN a ia x) (zaN b ib y)).Old, (zbA (zaN o io i) (zaN a ia x) (zaN b ib y)).One, (zbA (zaN o io i) (zaN a ia x) (zaN b ib y)).Two⟩ : Part) = zbA (zaN o io i) (zaN a ia x) (zaN b ib y) from rfl,
      zjs hP (by omega) (zeI (Nat.le_trans c2 ha) (Nat.le_trans c3 hb)), Option.bind_some]
    by_cases hio : i < o.length
    · have hs : o[i]? = some o[i] := List.getElem?_eq_getElem hio
      rw [decide_eq_true (by omega), cond_true, zae hs, Option.bind_some, show (⟨false, [o[i]], [], [], []⟩ : Part) = lnP [o[i]] from rfl, zjs hP1 (by omega) (by simp [lnP]), Option.bind_some, ex, ey]
      have hm : zbG o a b i x y io ia ib out = zgU (zgU out (zbA (zaN o io i) (zaN a ia x) (zaN b ib y))) (lnP [o[i]]) := by
        unfold zbG
        rw [show ((i : Int)).toNat = i by omega, hs]
      rw [← hm]
      exact hfin
    · rw [decide_eq_false (by omega), cond_false, ex, ey]
      have hm : zbG o a b i x y io ia ib out = zgU out (zbA (zaN o io i) (zaN a ia x) (zaN b ib y)) := by
        unfold zbG
        rw [show ((i : Int)).toNat = i by omega, List.getElem?_eq_none (by omega)]
      rw [← hm]
      exact hfin
theorem zeB (o a : List Str) : Asc ((a.length : Int) + 1) 0 (mt2 o a ++ [(a.length : Int)]) ∧ (mt2 o a ++ [(a.length : Int)]).length = o.length + 1 := by
  have h := zfk o a
  exact ⟨Asc.snoc (by omega) (by omega) h.1, by simp [h.2]⟩
theorem zmH {o a b : List Str} (ho : o.length ≤ 1000) (ha : a.length ≤ 1000) (hb : b.length ≤ 1000) : ziz o a b = some (zaB o a b) := by
  obtain ⟨a1, a2⟩ := zeB o a
  obtain ⟨b1, b2⟩ := zeB o b
  have l1 := (zfk o a).2
  have l2 := (zfk o b).2
  unfold ziz
  rw [zic ho ha, Option.bind_some, zlc (by omega), Option.bind_some, zic ho hb, Option.bind_some, zlc (by omega), Option.bind_some]
  simp only [jn]
  have := zgc ho ha hb a2 b2 (o.length + 1) 0 ((((mt2 o a ++ [(a.length : Int)]).length : Int) - 0).toNat + 1) 0 0 0 [] (by omega) (by omega) a1 b1 (by omega) (by omega) (by omega) (by omega) ⟨by simp, by simp⟩
  exact this
theorem zty {o : List Str} {i : Nat} {s : Str} (h : o[i]? = some s) : slM o (i : Int) ((i + 1 : Nat) : Int) = some [s] := by
  have hi := zav h
  rw [zf2 (by omega) (by omega) (by omega)]
  congr 1
  rw [show (((i + 1 : Nat) : Int)).toNat = i + 1 by omega, show ((i : Int)).toNat = i by omega, List.drop_take, show i + 1 - i = 1 by omega, List.drop_eq_getElem_cons hi]
  rw [List.getElem?_eq_getElem hi] at h
  simp [Option.some.inj h]
theorem zgd {o a b : List Str} (ho : o.length ≤ 1000) (ha : a.length ≤ 1000) (hb : b.length ≤ 1000) {ma mb : List Int} (hla : ma.length = o.length + 1) (hlb : mb.length = o.length + 1) :
    ∀ (n i m : Nat) (io ia ib : Int) (out : List Part), i + n = o.length + 1 → n < m → Asc ((a.length : Int) + 1) ia (ma.drop i) → Asc ((b.length : Int) + 1) ib (mb.drop i) → 0 ≤ io → io ≤ i → 0 ≤ ia → 0 ≤ ib → PB (2 * i) out →
      zaG o a b ma mb (fun _ _ _ _ y49 => some y49) m io ia ib (i : Int) out = some (zaU o a b i (ma.drop i) (mb.drop i) io ia ib out)
  | n, i, 0, _, _, _, _, _, hm, _, _, _, _, _, _, _ => by omega
  | 0, i, m + 1, io, ia, ib, out, hi, _, _, _, _, _, _, _, _ => by
    simp only [zaG]
    rw [decide_eq_false (by omega), cond_false, List.drop_eq_nil_of_le (by omega), zaU.eq_def]
  | n + 1, i, m + 1, io, ia, ib, out, hi, hm, hA, hB, h0, h1, h2, h3, hP => by
    obtain ⟨x, hx⟩ : ∃ x, ma[i]? = some x := ⟨_, List.getElem?_eq_getElem (by omega)⟩
    obtain ⟨y, hy⟩ : ∃ y, mb[i]? = some y := ⟨_, List.getElem?_eq_getElem (by omega)⟩
    rw [zhD hx] at hA ⊢
    rw [zhD hy] at hB ⊢
    have ei : w64 ((i : Int) + 1) = ((i + 1 : Nat) : Int) := by rw [zah (by omega) (by omega)]; omega
    have ei' : (i : Int) + 1 = ((i + 1 : Nat) : Int) := by omega
    rw [ei'] at ei
    have dn : decide ((-1 : Int) < 0) = true := rfl
    have hstay : ∀ (hA' : Asc ((a.length : Int) + 1) ia (ma.drop (i + 1))) (hB' : Asc ((b.length : Int) + 1) ib (mb.drop (i + 1))), zaG o a b ma mb (fun _ _ _ _ y49 => some y49) m io ia ib ((i + 1 : Nat) : Int) out = some (zaU o a b ((i + 1 : Nat) : Int) (ma.drop (i + 1)) (mb.drop (i + 1)) io ia ib out) :=
      fun hA' hB' => zgd ho ha hb hla hlb n (i + 1) m io ia ib out (by omega) (by omega) hA' hB' h0 (by omega) h2 h3 (hP.mono (by omega))
    rw [zaU]
    simp only [zaG, jn, zae hx, zae hy, Option.bind_some, ei, ei', hla]
    rw [decide_eq_true (show (i : Int) < ((o.length + 1 : Nat) : Int) by omega), cond_true]
    rcases hA with ⟨rfl, hA⟩ | ⟨ha1, ha2, hA⟩
    · rcases hB with ⟨rfl, hB⟩ | ⟨hb1, hb2, hB⟩
      · simp only [dn, cond_true, Bool.true_or]; exact hstay hA hB
      · simp only [dn, cond_true, Bool.true_or]; exact hstay hA (hB.mono (by omega))
    rcases hB with ⟨rfl, hB⟩ | ⟨hb1, hb2, hB⟩
    · rw [decide_eq_false (show ¬ x < 0 by omega), cond_false]
      simp only [dn, cond_true, Bool.false_or]
      exact hstay (hA.mono (by omega)) hB
    rw [decide_eq_false (show ¬ x < 0 by omega), decide_eq_false (show ¬ y < 0 by omega)]
    simp only [cond_false, Bool.or_false]
    have ex : w64 (x + 1) = x + 1 := zah (by omega) (by omega)
    have ey : w64 (y + 1) = y + 1 := zah (by omega) (by omega)
    have c1 := zbe o io i
    have c2 := zbe a ia x
    have c3 := zbe b ib y
    have hP1 := zhC hP (zeI (o := zaN o io i) (Nat.le_trans c2 ha) (Nat.le_trans c3 hb))
    have hS := zgb (o := o) ha hb (i := i) (x := x) (y := y) (io := io) (ia := ia) (ib := ib) hP
    have hfin := zgd ho ha hb hla hlb n (i + 1) m ((i + 1 : Nat) : Int) (x + 1) (y + 1) (zbG o a b i x y io ia ib out) (by omega) (by omega) hA hB (by omega) (by omega) (by omega) (by omega) (hS.mono (by omega))
    rw [zf2 h0 h1 (by omega), Option.bind_some, zf2 h2 ha1 (by omega), Option.bind_some, zf2 h3 hb1 (by omega), Option.bind_some,
      show ((o.take ((i : Int)).toNat).drop io.toNat) = zaN o io i from rfl, show ((a.take x.toNat).drop ia.toNat) = zaN a ia x from rfl, show ((b.take y.toNat).drop ib.toNat) = zaN b ib y from rfl,
      zeH (show (zaN a ia x).length ≤ zam by unfold zam; omega), Option.bind_some]
    -- what follows, of any out
    have hrest : ∀ q, q = zgU out (zbA (zaN o io i) (zaN a ia x) (zaN b ib y)) →
        (bif decide ((i : Int) < (o.length : Int)) then (slM o (i : Int) ((i + 1 : Nat) : Int)).bind fun q154 => (zbz q154 q).bind fun z158 => zaG o a b ma mb (fun _ _ _ _ y49 => some y49) m ((i + 1 : Nat) : Int) (w64 (x + 1)) (w64 (y + 1)) ((i + 1 : Nat) : Int) z158
        else zaG o a b ma mb (fun _ _ _ _ y49 => some y49) m ((i + 1 : Nat) : Int) (w64 (x + 1)) (w64 (y + 1)) ((i + 1 : Nat) : Int) q) =
        some (zaU o a b ((i + 1 : Nat) : Int) (ma.drop (i + 1)) (mb.drop (i + 1)) ((i + 1 : Nat) : Int) (x + 1) (y + 1) (zbG o a b i x y io ia ib out)) := by
      rintro q rfl
      rw [ex, ey]
      by_cases hio : i < o.length
      · have hs : o[i]? = some o[i] := List.getElem?_eq_getElem hio
        rw [decide_eq_true (by omega), cond_true, zty hs, Option.bind_some, c1_eq hP1 (by omega) (by simp), Option.bind_some]
        have hm : zbG o a b i x y io ia ib out = zgU (zgU out (zbA (zaN o io i) (zaN a ia x) (zaN b ib y))) (lnP [o[i]]) := by
          unfold zbG
          rw [show ((i : Int)).toNat = i by omega, hs]
        rw [← hm]
        exact hfin
      · rw [decide_eq_false (by omega), cond_false]
        have hm : zbG o a b i x y io ia ib out = zgU out (zbA (zaN o io i) (zaN a ia x) (zaN b ib y)) := by
          unfold zbG
          rw [show ((i : Int)).toNat = i by omega, List.getElem?_eq_none (by omega)]
        rw [← hm]
        exact hfin
    have hclash : apM out [(⟨true, [], zaN o io i, zaN a ia x, zaN b ib y⟩ : Part)] = some (out ++ [⟨true, [], zaN o io i, zaN a ia x, zaN b ib y⟩]) := zfI (by have := hP.1; simp [lim]; omega)
    cases e1 : zaN a ia x == zaN o io i with
    | true =>
      rw [cond_true, cond_true, c1_eq hP (by omega) (by omega), Option.bind_some]
      exact hrest _ (by simp [zbA, e1])
    | false =>
      rw [cond_false, zeH (show (zaN a ia x).length ≤ zam by unfold zam; omega), Option.bind_some]
      cases e2 : zaN a ia x == zaN b ib y with
      | true =>
        rw [cond_true, c1_eq hP (by omega) (by omega), Option.bind_some]
        exact hrest _ (by simp [zbA, e1, e2])
      | false =>
        rw [cond_false, zeH (show (zaN b ib y).length ≤ zam by unfold zam; omega), Option.bind_some]
        cases e3 : zaN b ib y == zaN o io i with
        | true =>
          rw [cond_true, c1_eq hP (by omega) (by omega), Option.bind_some]
          exact hrest _ (by simp [zbA, e1, e2, e3])
        | false =>
          rw [cond_false, zbO (by omega), Option.bind_some, zbO (by omega), Option.bind_some, zbO (by omega), Option.bind_some, hclash, Option.bind_some]
          exact hrest _ (by simp [zbA, e1, e2, e3, zjY])
theorem zjZ {o a b : List Str} (ho : o.length ≤ 1000) (ha : a.length ≤ 1000) (hb : b.length ≤ 1000) : zfy o a b = some (zaB o a b) := by
  obtain ⟨a1, a2⟩ := zeB o a
  obtain ⟨b1, b2⟩ := zeB o b
  have l1 := (zfk o a).2
  have l2 := (zfk o b).2
  unfold zfy
  rw [zia ho ha, Option.bind_some, zlc (by omega), Option.bind_some, zia ho hb, Option.bind_some, zlc (by omega), Option.bind_some]
  simp only [jn]
  exact zgd ho ha hb a2 b2 (o.length + 1) 0 ((((mt2 o a ++ [(a.length : Int)]).length : Int) - 0).toNat + 1) 0 0 0 [] (by omega) (by omega) a1 b1 (by omega) (by omega) (by omega) (by omega) ⟨by simp, by simp⟩
end Go.Vm
namespace Go.Sx
open Go
end Go.Sx
namespace Go.Vm
open Go Go.Sx
set_option linter.unusedSimpArgs false
set_option linter.unusedVariables false
section
variable {o a b : List Str} {Q : Part → Prop}
theorem zjt {out : List Part} {p : Part} (h3 : ∀ q p : Part, Q q → Q p → q.Clash = false → p.Clash = false → Q ⟨q.Clash, q.Lines ++ p.Lines, q.Old, q.One, q.Two⟩) (h : ∀ q ∈ out, Q q) (hp : Q p) : ∀ q ∈ zgU out p, Q q := by
  have happ : ∀ q ∈ out ++ [p], Q q := fun q hq => by
    rcases List.mem_append.1 hq with h1 | h1
    · exact h q h1
    · rw [List.mem_singleton] at h1; rw [h1]; exact hp
  unfold zgU
  cases (!p.Clash && p.Lines.length == 0) with
  | true => exact h
  | false =>
    rw [cond_false]
    split
    · rename_i q hq
      cases hc : (!p.Clash && !q.Clash) with
      | false => exact happ
      | true =>
        simp only [Bool.and_eq_true, Bool.not_eq_true'] at hc
        rw [cond_true]
        intro r hr
        rcases List.mem_or_eq_of_mem_set hr with h1 | h1
        · exact h r h1
        · rw [h1]; exact h3 q p (h q (List.mem_of_getElem? hq)) hp hc.2 hc.1
    · exact happ
theorem zfa (h1 : ∀ l h l' h' l'' h'', Q (zbA (zaN o l h) (zaN a l' h') (zaN b l'' h''))) (h2 : ∀ s ∈ o, Q (lnP [s]))
    (h3 : ∀ q p : Part, Q q → Q p → q.Clash = false → p.Clash = false → Q ⟨q.Clash, q.Lines ++ p.Lines, q.Old, q.One, q.Two⟩) : ∀ (ma mb : List Int) (i io ia ib : Int) (out : List Part), (∀ q ∈ out, Q q) → ∀ q ∈ zaU o a b i ma mb io ia ib out, Q q
  | [], mb, i, io, ia, ib, out, h => by rw [zaU.eq_def]; exact h
  | x :: ma, [], i, io, ia, ib, out, h => by rw [zaU.eq_def]; exact h
  | x :: ma, y :: mb, i, io, ia, ib, out, h => by
    rw [zaU]
    cases (decide (x < 0) || decide (y < 0)) with
    | true => exact zfa h1 h2 h3 ma mb _ _ _ _ out h
    | false =>
      refine zfa h1 h2 h3 ma mb _ _ _ _ _ ?_
      have hp := zjt h3 h (h1 io i ia x ib y)
      unfold zbG
      split
      · rename_i s hs
        exact zjt h3 hp (h2 s (List.mem_of_getElem? hs))
      · exact hp
theorem zj0 (h1 : ∀ l h l' h' l'' h'', Q (zbA (zaN o l h) (zaN a l' h') (zaN b l'' h''))) (h2 : ∀ s ∈ o, Q (lnP [s]))
    (h3 : ∀ q p : Part, Q q → Q p → q.Clash = false → p.Clash = false → Q ⟨q.Clash, q.Lines ++ p.Lines, q.Old, q.One, q.Two⟩) : ∀ q ∈ zaB o a b, Q q :=
  zfa h1 h2 h3 _ _ _ _ _ _ [] (by simp)
theorem zeJ {α : Type} {xs : List α} {l h : Int} {x : α} (hx : x ∈ zaN xs l h) : x ∈ xs := List.mem_of_mem_take (List.mem_of_mem_drop hx)
theorem zid {P : Str → Prop} (ho : ∀ s ∈ o, P s) (ha : ∀ s ∈ a, P s) (hb : ∀ s ∈ b, P s) : ∀ q ∈ zaB o a b, (∀ s ∈ q.Lines, P s) ∧ (∀ s ∈ q.Old, P s) ∧ (∀ s ∈ q.One, P s) ∧ (∀ s ∈ q.Two, P s) ∧ q.Old.length ≤ o.length ∧ q.One.length ≤ a.length ∧ q.Two.length ≤ b.length := by
  refine zj0 (fun l h l' h' l'' h'' => ?_) (fun s hs => ?_) (fun q p hq hp _ _ => ?_)
  · have c1 := zbe o l h
    have c2 := zbe a l' h'
    have c3 := zbe b l'' h''
    unfold zbA lnP
    cases (zaN a l' h' == zaN o l h || zaN a l' h' == zaN b l'' h'') with
    | true => exact ⟨fun s hs => hb s (zeJ hs), by simp, by simp, by simp, by simp, by simp, by simp⟩
    | false =>
      rw [cond_false]
      cases (zaN b l'' h'' == zaN o l h) with
      | true => exact ⟨fun s hs => ha s (zeJ hs), by simp, by simp, by simp, by simp, by simp, by simp⟩
      | false => exact ⟨by simp, fun s hs => ho s (zeJ hs), fun s hs => ha s (zeJ hs), fun s hs => hb s (zeJ hs), c1, c2, c3⟩
  · exact ⟨by simpa [lnP] using ho s hs, by simp [lnP], by simp [lnP], by simp [lnP], by simp [lnP], by simp [lnP], by simp [lnP]⟩
  · exact ⟨fun s hs => (List.mem_append.1 hs).elim (hq.1 s) (hp.1 s), hq.2⟩
theorem zj1 (ho : o.length ≤ 1000) (ha : a.length ≤ 1000) (hb : b.length ≤ 1000) : PB (2 * (o.length + 1)) (zaB o a b) := by
  have := zfP (o := o) ha hb (mt2 o a ++ [(a.length : Int)]) (mt2 o b ++ [(b.length : Int)]) 0 0 0 0 0 [] ⟨by simp, by simp⟩
  rw [(zeB o a).2] at this
  exact this.mono (by omega)
end
section
variable {xs : List Memo} {o a b : List Str}
def okT (t : List Str) : List Str × Bool := bif zar t then (t, true) else ([], false)
def zog (i : Nat) (s : List Str) : Prop := s.length ≤ 22000 * i ∧ ∀ x ∈ s, zcE x = true
theorem zbT {s : List Str} (h : s.length ≤ 1000000) (hl : ∀ x ∈ s, zcE x = true) : Bk.fit s := ⟨by unfold zam; omega, fun x hx => by have := zhS (hl x hx); show x.length ≤ zam; unfold zam; omega⟩
theorem apT {s t : List Str} (h : s.length ≤ 1000000) (h' : t.length ≤ 1000000) : apM s t = some (s ++ t) := zfI (by simp [lim]; omega)
theorem zhU (hto : zar o = true) (hta : zar a = true) (htb : zar b = true) : (zaB o a b).length ≤ 22 ∧ ∀ p ∈ zaB o a b, p.Lines.length ≤ 22000 ∧ (∀ x ∈ p.Lines, zcE x = true) ∧ zar p.Old = true ∧ zar p.One = true ∧ zar p.Two = true := by
  have lo := zay hto
  have la := zay hta
  have lb := zay htb
  have hP := zj1 (o := o) (a := a) (b := b) (by omega) (by omega) (by omega)
  refine ⟨Nat.le_trans hP.1 (by omega), fun p hp => ?_⟩
  obtain ⟨h1, h2, h3, h4, h5, h6, h7⟩ := zid (P := fun s => zcE s = true) (zaT hto) (zaT hta) (zaT htb) p hp
  have hl := hP.2 p hp
  have mk : ∀ t : List Str, t.length ≤ 10 → (∀ s ∈ t, zcE s = true) → zar t = true := fun t h1 h2 => by
    unfold zar
    rw [decide_eq_false (by omega)]
    simp only [Bool.not_false, Bool.true_and, List.all_eq_true]
    exact h2
  exact ⟨by omega, h1, mk _ (by omega) h2, mk _ (by omega) h3, mk _ (by omega) h4⟩
end
def LB (n : Nat) (t : List Str) : Prop := t.length ≤ n ∧ ∀ s ∈ t, s.length ≤ 100
theorem LB.fit {n : Nat} {t : List Str} (h : LB n t) (hn : n ≤ 1000000) : Bk.fit t := ⟨by have := h.1; unfold zam; omega, fun s hs => by have := h.2 s hs; show s.length ≤ zam; unfold zam; omega⟩
theorem LB.mono {n m : Nat} {t : List Str} (h : LB n t) (hm : n ≤ m) : LB m t := ⟨Nat.le_trans h.1 hm, h.2⟩
theorem zgQ {α : Type} {f : α → Nat} {c : Nat} : ∀ {t : List α}, (∀ s ∈ t, f s ≤ c) → zcT f t ≤ c * t.length
  | [], _ => by simp [zcT]
  | x :: t, h => by
    have h1 := h x (by simp)
    have h2 := zgQ (t := t) (fun s hs => h s (by simp [hs]))
    simp only [zcT, List.length_cons, Nat.mul_add, Nat.mul_one]
    omega
theorem LB.bulk {n : Nat} {t : List Str} (h : LB n t) : Bk.bulk t ≤ 101 * n := by
  have h1 : zcT Bk.bulk t ≤ 100 * t.length := zgQ (f := fun s : Str => s.length) (c := 100) (fun s hs => h.2 s hs)
  have := h.1
  rw [zq5]
  omega
section
variable {r : l30Rd} {p : Int}
theorem zjd (h : zde r p) (hp : p ≤ 1099511627776) {l : List Str} (h0 : 0 < l.length) (hl : l.length ≤ 1000) : ∃ s, zbY r l = some (s, r.p + 1) ∧ s ∈ l := by
  obtain ⟨k, hk, k0, k1⟩ := zdF (n := (l.length : Int)) h hp (by omega) (by omega)
  obtain ⟨s, hs⟩ := zfK k0 k1
  unfold zbY
  rw [hk, Option.bind_some, hs, Option.bind_some]
  exact ⟨s, rfl, List.mem_of_getElem? (zkc hs).2.1⟩
theorem zko (h : zde r p) (hp : p ≤ 1099511627776) {l : List Int} (h0 : 0 < l.length) (hl : l.length ≤ 1000) : ∃ s, zdg r l = some (s, r.p + 1) ∧ s ∈ l := by
  obtain ⟨k, hk, k0, k1⟩ := zdF (n := (l.length : Int)) h hp (by omega) (by omega)
  obtain ⟨s, hs⟩ := zfK k0 k1
  unfold zdg
  rw [hk, Option.bind_some, hs, Option.bind_some]
  exact ⟨s, rfl, List.mem_of_getElem? (zkc hs).2.1⟩
theorem zmI (h : zde r p) (hp : p ≤ 1099511627776) : ∃ s, zdR r = some (s, r.p + 1) ∧ s.length ≤ 12 := by
  unfold zdR
  obtain ⟨s, hs, hm⟩ := zjd h hp (l := ([([97] : Str), ([98] : Str), ([99] : Str), ([100] : Str), ([] : Str), ([120, 32, 121] : Str), ([115, 101, 101, 32, 97] : Str), ([115, 101, 101, 32, 100, 47, 101] : Str), ([101, 110, 100] : Str)] : List Str)) (by simp) (by simp)
  rw [hs, Option.bind_some]
  refine ⟨s, rfl, ?_⟩
  simp only [List.mem_cons, List.not_mem_nil, or_false] at hm
  rcases hm with rfl | rfl | rfl | rfl | rfl | rfl | rfl | rfl | rfl <;> simp
theorem on1 (h : zde r p) {q : Int} (hq : p + 1 ≤ q) : zde ⟨r.b, r.p + 1⟩ q := h.on 1 (by omega) (by have := h.2.2; omega)
theorem zkH {x0 : l30Rd} : ∀ (m : Nat) (out : List Str) (n q p : Int), 0 ≤ n → n < m → n ≤ 100 → LB 100 out → zde ⟨x0.b, q⟩ p → p + n ≤ 1099511627776 → out.length + n ≤ 100 →
    ∃ out' q', zdS x0 (fun y15 y18 y19 => some (y15, y19)) m out n q = some (out', q') ∧ LB 100 out' ∧ (out'.length : Int) = out.length + n ∧ zde ⟨x0.b, q'⟩ (p + n)
  | 0, out, n, q, p, h0, hm, _, _, _, _, _ => by omega
  | m + 1, out, n, q, p, h0, hm, hn, hf, hr, hp, hl => by
    simp only [zdS]
    by_cases hn0 : 0 < n
    · obtain ⟨s, hs, hs2⟩ := zmI hr (by omega)
      have hs' : zdR ⟨x0.b, q⟩ = some (s, q + 1) := hs
      rw [decide_eq_true hn0, cond_true, hs', Option.bind_some, ap1 (show out.length ≤ 1048576 by omega), Option.bind_some, zah (by omega) (by omega)]
      have hf' : LB 100 (out ++ [s]) := ⟨by simp; omega, fun x hx => by
        rcases List.mem_append.1 hx with h1 | h1
        · exact hf.2 x h1
        · rw [List.mem_singleton] at h1; rw [h1]; omega⟩
      obtain ⟨o', q', e, f', l', r'⟩ := zkH (x0 := x0) m (out ++ [s]) (n - 1) (q + 1) (p + 1) (by omega) (by omega) (by omega) hf' (on1 hr (by omega)) (by omega) (by simp; omega)
      exact ⟨o', q', e, f', by rw [l']; simp; omega, by rw [show p + n = p + 1 + (n - 1) by omega]; exact r'⟩
    · have hz : n = 0 := by omega
      subst hz
      rw [decide_eq_false hn0, cond_false]
      exact ⟨out, q, rfl, hf, by omega, by simpa using hr⟩
theorem zmJ (h : zde r p) (hp : p ≤ 1000000000) : ∃ t q, zfs r = some (t, q) ∧ LB 8 t ∧ zde ⟨r.b, q⟩ (p + 10) := by
  unfold zfs
  obtain ⟨n, hn, hm⟩ := zko h (by omega) (l := [0, 1, 3, 5, 8]) (by simp) (by simp)
  have hn8 : 0 ≤ n ∧ n ≤ 8 := by
    simp only [List.mem_cons, List.not_mem_nil, or_false] at hm
    omega
  rw [hn, Option.bind_some]
  simp only [jn]
  obtain ⟨t, q, e, f, l, ro⟩ := zkH (x0 := r) ((n - 0).toNat + 1) [] n (r.p + 1) (p + 1) hn8.1 (by omega) (by omega) ⟨by simp, by simp⟩ (on1 h (by omega)) (by omega) (by simp; omega)
  refine ⟨t, q, e, ⟨by simp at l; omega, f.2⟩, ro.1, ro.2.1, ?_⟩
  have := ro.2.2
  omega
end
section
variable {o a b : List Str} {xs : List Memo}
def znG (l : List Part) : List Part := l.filter (·.Clash)
end
open Go Go.Sx Go.Proofs
theorem zaR (a b : Str) : Op.bytesLess a b = decide (a < b) := bytesLess_eq a b
theorem zkI (a b : Str) : (decide (a ≤ b) || decide (b ≤ a)) = true := by
  rcases List.le_total a b with h | h <;> simp [h]
theorem zkJ (a b c : Str) : decide (a ≤ b) = true → decide (b ≤ c) = true → decide (a ≤ c) = true := by
  simp only [decide_eq_true_eq]
  exact List.le_trans
theorem zaj (a : Str) : ¬ a < a := List.lt_irrefl a
theorem zaS {a b c : Str} : a < b → b < c → a < c := List.lt_trans
theorem zbv {a b : Str} (h : a ≤ b) (hn : a ≠ b) : a < b := by
  rcases Decidable.em (a < b) with h1 | h1
  · exact h1
  · exact absurd (List.le_antisymm h (List.not_lt.1 h1)) hn
theorem zhE {a b : Str} : ¬ a < b ↔ b ≤ a := List.not_lt
def Asd (xs : List Str) : Prop := xs.Pairwise (· < ·)
theorem Asd.ext : ∀ {xs ys : List Str}, Asd xs → Asd ys → (∀ a, a ∈ xs ↔ a ∈ ys) → xs = ys
  | [], [], _, _, _ => rfl
  | [], y :: ys, _, _, h => by have := (h y).2 (by simp); simp at this
  | x :: xs, [], _, _, h => by have := (h x).1 (by simp); simp at this
  | x :: xs, y :: ys, hx, hy, h => by
    have hx' := List.pairwise_cons.1 hx
    have hy' := List.pairwise_cons.1 hy
    have e : x = y := by
      rcases List.mem_cons.1 ((h x).1 (by simp)) with e | hm
      · exact e
      · rcases List.mem_cons.1 ((h y).2 (by simp)) with e | hm2
        · exact e.symm
        · exact absurd (zaS (hy'.1 x hm) (hx'.1 y hm2)) (zaj y)
    subst e
    have ht : ∀ a, a ∈ xs ↔ a ∈ ys := fun a => by
      constructor
      · intro ha
        rcases List.mem_cons.1 ((h a).1 (List.mem_cons_of_mem _ ha)) with e | hm
        · exact absurd (by rw [e] at ha; exact hx'.1 x ha) (zaj x)
        · exact hm
      · intro ha
        rcases List.mem_cons.1 ((h a).2 (List.mem_cons_of_mem _ ha)) with e | hm
        · exact absurd (by rw [e] at ha; exact hy'.1 x ha) (zaj x)
        · exact hm
    rw [Asd.ext hx'.2 hy'.2 ht]
theorem zkK (l : List Str) : (zdQ l).Pairwise (· ≤ ·) := by
  have := List.pairwise_mergeSort (le := fun x y : Str => decide (x ≤ y)) zkJ zkI l
  exact this.imp (by simp)
theorem zju {l : List Str} {a : Str} : a ∈ zdQ l ↔ a ∈ l := List.mem_mergeSort
theorem zie : ∀ (l : List Str) (p : Option Str) (a : Str), a ∈ zdp p l ∨ some a = p ↔ a ∈ l ∨ some a = p
  | [], p, a => by simp [zdp]
  | x :: l, p, a => by
    have ih := zie l (some x) a
    unfold zdp
    by_cases hp : p = some x
    · rw [if_pos hp, hp]
      rw [ih]
      simp only [List.mem_cons, Option.some.injEq]
      constructor
      · rintro (h | h)
        · exact .inl (.inr h)
        · exact .inr h
      · rintro ((h | h) | h)
        · exact .inr h
        · exact .inl h
        · exact .inr h
    · rw [if_neg hp]
      simp only [List.mem_cons, Option.some.injEq] at ih ⊢
      constructor
      · rintro ((h | h) | h)
        · exact .inl (.inl h)
        · rcases ih.1 (.inl h) with h2 | h2
          · exact .inl (.inr h2)
          · exact .inl (.inl h2)
        · exact .inr h
      · rintro ((h | h) | h)
        · exact .inl (.inl h)
        · rcases ih.2 (.inl h) with h2 | h2
          · exact .inl (.inr h2)
          · exact .inl (.inl h2)
        · exact .inr h
theorem zhc {l : List Str} {a : Str} : a ∈ zk3 l ↔ a ∈ l := by
  have := zie l none a
  simpa [zk3] using this
theorem zfb : ∀ (l : List Str) (p : Option Str), l.Pairwise (· ≤ ·) → (∀ q, p = some q → ∀ a ∈ l, q ≤ a) → Asd (zdp p l) ∧ ∀ q, p = some q → ∀ a ∈ zdp p l, q < a
  | [], p, _, _ => by simp [zdp, Asd]
  | x :: l, p, h, hp => by
    have h' := List.pairwise_cons.1 h
    obtain ⟨i1, i2⟩ := zfb l (some x) h'.2 (fun q hq a ha => by cases hq; exact h'.1 a ha)
    unfold zdp
    by_cases hpx : p = some x
    · rw [if_pos hpx]
      exact ⟨i1, fun q hq a ha => by rw [hpx] at hq; exact i2 q hq a ha⟩
    · rw [if_neg hpx]
      refine ⟨List.pairwise_cons.2 ⟨fun a ha => i2 x rfl a ha, i1⟩, fun q hq a ha => ?_⟩
      have hqx : q < x := zbv (hp q hq x (by simp)) (fun e => hpx (by rw [hq, e]))
      rcases List.mem_cons.1 ha with e | e
      · rw [e]; exact hqx
      · exact zaS hqx (i2 x rfl a e)
def zgN (xs : List Str) (s : Str) : List Str := zk3 (zdQ (xs ++ [s]))
theorem zeK (xs : List Str) (s : Str) : Asd (zgN xs s) := (zfb _ none (zkK _) (fun q hq => by cases hq)).1
theorem insS_mem {xs : List Str} {s a : Str} : a ∈ zgN xs s ↔ a ∈ xs ∨ a = s := by
  unfold zgN
  rw [zhc, zju, List.mem_append, List.mem_singleton]
theorem zge : ∀ (zs : List Str) (p : Option Str), (zdp p zs).length ≤ zs.length
  | [], p => by simp [zdp]
  | x :: l, p => by
    have := zge l (some x)
    unfold zdp
    split <;> simp <;> omega
theorem zhF (xs : List Str) (s : Str) : (zgN xs s).length ≤ xs.length + 1 := by
  have := zge (zdQ (xs ++ [s])) none
  unfold zgN zk3
  have h2 : (zdQ (xs ++ [s])).length = (xs ++ [s]).length := List.length_mergeSort _
  rw [h2] at this
  simpa using this
def zhv (c : UInt8) : Bool := (decide (97 ≤ (c.toNat : Int)) && decide ((c.toNat : Int) ≤ 122)) || (decide (48 ≤ (c.toNat : Int)) && decide ((c.toNat : Int) ≤ 57))
def zaD (s : Str) : Bool := (decide (1 ≤ (s.length : Int)) && decide ((s.length : Int) ≤ 6)) && s.all zhv
theorem ziZ (c : UInt8) : zeT c = some (zhv c) := by
  unfold zeT zhv
  simp only [jn]
  cases decide (97 ≤ (c.toNat : Int)) <;> cases decide ((c.toNat : Int) ≤ 122) <;> cases decide (48 ≤ (c.toNat : Int)) <;> cases decide ((c.toNat : Int) ≤ 57) <;> rfl
theorem zeL (a b c : Int) : zfp a b c = some (decide (b ≤ a) && decide (a ≤ c)) := by
  unfold zfp
  simp only [jn]
  cases decide (b ≤ a) <;> rfl
theorem zeg (a b c : Int) : zfj a b c = some (decide (b ≤ a) && decide (a ≤ c)) := by
  unfold zfj
  simp only [jn]
  cases decide (b ≤ a) <;> rfl
theorem zeZ {s : Str} (h : s.length ≤ zam) : zeE s = some (zaD s) := by
  unfold zeE zaD
  simp only [jn, zas, zeL, Option.bind_some]
  cases (decide (1 ≤ (s.length : Int)) && decide ((s.length : Int) ≤ 6))
  case false => rfl
  simp only [Bool.not_true, cond_false, Bool.true_and]
  rw [zaK (α := UInt8) (xs := s) (p := zhv) (r0 := some false) (Z := some true) (f := fun m i => zcu s (fun _ _ => some true) m false i) (fun m i x hx => by
    simp only [zcu, jn, zaq hx, zg3 hx, cond_true, Option.bind_some, zag (zav hx) h, ziZ]
    cases zhv x <;> rfl) (fun m => by simp only [zcu, zai, cond_false]) (by omega)]
  cases s.all zhv <;> rfl
theorem znX (a b : Int) : decide (a < b) = !decide (b ≤ a) := by
  by_cases h : a < b
  · rw [decide_eq_true h, decide_eq_false (by omega)]; rfl
  · rw [decide_eq_false h, decide_eq_true (by omega)]; rfl
theorem zbf {s : Str} (h : s.length ≤ zam) : zdJ s = some (zaD s) := by
  unfold zdJ zaD
  simp only [jn, zas, zeg, Option.bind_some]
  rw [zaK (α := UInt8) (xs := s) (p := zhv) (r0 := some false) (Z := some (decide (1 ≤ (s.length : Int)) && decide ((s.length : Int) ≤ 6))) (f := fun m i => zcl s (fun _ _ => some (decide (1 ≤ (s.length : Int)) && decide ((s.length : Int) ≤ 6))) m false i) (fun m i x hx => by
    simp only [zcl, jn, zaq hx, zg3 hx, cond_true, Option.bind_some, zag (zav hx) h, znX, zhv]
    cases decide (97 ≤ (x.toNat : Int)) <;> cases decide ((x.toNat : Int) ≤ 122) <;> cases decide (48 ≤ (x.toNat : Int)) <;> cases decide ((x.toNat : Int) ≤ 57) <;> rfl) (fun m => by simp only [zcl, zai, cond_false]) (by omega)]
  cases s.all zhv <;> cases (decide (1 ≤ (s.length : Int)) && decide ((s.length : Int) ≤ 6)) <;> rfl
def ahd (s : Str) : List Str → Nat
  | [] => 0
  | x :: xs => bif Op.bytesLess x s then ahd s xs + 1 else 0
theorem zl2 (s : Str) : ∀ xs, ahd s xs ≤ xs.length
  | [] => Nat.le_refl _
  | x :: xs => by
    have := zl2 s xs
    unfold ahd
    cases Op.bytesLess x s
    · simp
    · simp only [cond_true, List.length_cons]; omega
theorem zjv (s : Str) : ∀ (xs : List Str) x, x ∈ xs.take (ahd s xs) → x < s
  | [], x, h => by simp at h
  | y :: xs, x, h => by
    unfold ahd at h
    cases hy : Op.bytesLess y s with
    | false => rw [hy] at h; simp at h
    | true =>
      rw [hy, cond_true, List.take_succ_cons] at h
      rcases List.mem_cons.1 h with e | e
      · rw [e]; rw [zaR] at hy; simpa using hy
      · exact zjv s xs x e
theorem zl3 (s : Str) : ∀ (xs : List Str) x, xs[ahd s xs]? = some x → s ≤ x
  | [], x, h => by simp at h
  | y :: xs, x, h => by
    unfold ahd at h
    cases hy : Op.bytesLess y s with
    | false =>
      rw [hy, cond_false] at h
      have e : y = x := by simpa using h
      rw [← e]
      rw [zaR] at hy
      exact zhE.1 (by simpa using hy)
    | true =>
      rw [hy, cond_true] at h
      exact zl3 s xs x (by simpa using h)
theorem znY {xs : List Str} {s : Str} (hl : xs.length ≤ 1000000) {K : Int → Option (List Str)} : ∀ (n i m : Nat), i + n = xs.length → n < m → (∀ j, j < i → ∃ x, xs[j]? = some x ∧ x < s) → zc9 xs s K m (i : Int) = K ((i + ahd s (xs.drop i) : Nat) : Int)
  | n, i, 0, _, hm, _ => by omega
  | 0, i, m + 1, hi, _, _ => by
    simp only [zc9, jn]
    rw [decide_eq_false (by omega), cond_false, cond_false, List.drop_eq_nil_of_le (by omega)]
    rfl
  | n + 1, i, m + 1, hi, hm, hall => by
    have hlt : i < xs.length := by omega
    have hx : xs[i]? = some xs[i] := List.getElem?_eq_getElem hlt
    simp only [zc9, jn]
    rw [decide_eq_true (by omega), cond_true, zae hx, Option.bind_some, List.drop_eq_getElem_cons hlt]
    unfold ahd
    cases hb : Op.bytesLess xs[i] s with
    | false => rw [cond_false, cond_false]; rfl
    | true =>
      rw [cond_true, cond_true, zag hlt (by unfold zam; omega)]
      rw [znY hl n (i + 1) m (by omega) (by omega) (fun j hj => by
        rcases Nat.lt_or_ge j i with h1 | h1
        · exact hall j h1
        · have : j = i := by omega
          subst this
          exact ⟨_, hx, by rw [zaR] at hb; simpa using hb⟩)]
      congr 2
      omega
theorem zlx {xs : List Str} {s : Str} (hl : xs.length ≤ 1000000) (ha : Asd xs) : zeC xs s = some (zgN xs s) := by
  unfold zeC
  simp only [jn]
  have h1 := znY (s := s) hl (K := fun y1 => bif decide (y1 < (xs.length : Int)) then (gi xs y1).bind fun u52 => bif u52 == s then some xs else (slM xs 0 y1).bind fun q19 => (apM [] q19).bind fun q24 => (apM q24 [s]).bind fun q31 => (slM xs y1 (xs.length : Int)).bind fun q36 => (apM q31 q36).bind fun q41 => some q41
      else bif false then some xs else (slM xs 0 y1).bind fun q19 => (apM [] q19).bind fun q24 => (apM q24 [s]).bind fun q31 => (slM xs y1 (xs.length : Int)).bind fun q36 => (apM q31 q36).bind fun q41 => some q41) xs.length 0 (xs.length + 1) (by omega) (by omega) (fun j hj => by omega)
  have hk := zl2 s xs
  simp only [Nat.zero_add, List.drop_zero] at h1
  refine h1.trans ?_
  -- the list with s in its place
  have hput : (slM xs 0 ((ahd s xs : Nat) : Int)).bind (fun q19 => (apM [] q19).bind fun q24 => (apM q24 [s]).bind fun q31 => (slM xs ((ahd s xs : Nat) : Int) (xs.length : Int)).bind fun q36 => (apM q31 q36).bind fun q41 => some q41) = some (xs.take (ahd s xs) ++ [s] ++ xs.drop (ahd s xs)) := by
    have hlt : (xs.take (ahd s xs)).length ≤ xs.length := by simp; omega
    rw [zhj hk, Option.bind_some, apN (by omega), Option.bind_some, ap1 (by omega), Option.bind_some, zjb hk, Option.bind_some, zfI (by simp [lim]; omega), Option.bind_some]
  have hmem : ∀ a, a ∈ xs.take (ahd s xs) ++ [s] ++ xs.drop (ahd s xs) ↔ a ∈ xs ∨ a = s := fun a => by
    have : a ∈ xs ↔ a ∈ xs.take (ahd s xs) ∨ a ∈ xs.drop (ahd s xs) := by rw [← List.mem_append, List.take_append_drop]
    rw [this]
    simp only [List.mem_append, List.mem_singleton]
    constructor
    · rintro ((h | h) | h)
      · exact .inl (.inl h)
      · exact .inr h
      · exact .inl (.inr h)
    · rintro ((h | h) | h)
      · exact .inl (.inl h)
      · exact .inr h
      · exact .inl (.inr h)
  have hfin : (∀ x ∈ xs.drop (ahd s xs), s < x) → some (xs.take (ahd s xs) ++ [s] ++ xs.drop (ahd s xs)) = some (zgN xs s) := by
    intro hd
    congr 1
    refine Asd.ext ?_ (zeK _ _) (fun a => by rw [hmem, insS_mem])
    have ha' := ha
    rw [← List.take_append_drop (ahd s xs) xs] at ha'
    obtain ⟨p1, p2, p3⟩ := List.pairwise_append.1 ha'
    refine List.pairwise_append.2 ⟨List.pairwise_append.2 ⟨p1, List.pairwise_singleton _ _, fun a h b hb => ?_⟩, p2, fun a h b hb => ?_⟩
    · rw [List.mem_singleton] at hb; rw [hb]; exact zjv s xs a h
    · rcases List.mem_append.1 h with h2 | h2
      · exact p3 a h2 b hb
      · rw [List.mem_singleton] at h2; rw [h2]; exact hd b hb
  by_cases hlt : ahd s xs < xs.length
  · have hx : xs[ahd s xs]? = some xs[ahd s xs] := List.getElem?_eq_getElem hlt
    have hge := zl3 s xs _ hx
    rw [decide_eq_true (by omega), cond_true, zae hx, Option.bind_some]
    cases he : xs[ahd s xs] == s with
    | true =>
      have e : xs[ahd s xs] = s := by simpa using he
      rw [cond_true]
      congr 1
      exact Asd.ext ha (zeK _ _) (fun a => by
        rw [insS_mem]
        constructor
        · exact .inl
        · rintro (h | h)
          · exact h
          · rw [h, ← e]; exact List.getElem_mem hlt)
    | false =>
      have e : s ≠ xs[ahd s xs] := fun e => by rw [← e] at he; simp at he
      rw [cond_false, hput]
      refine hfin (fun x hx2 => ?_)
      rw [List.drop_eq_getElem_cons hlt] at hx2
      have hs1 : s < xs[ahd s xs] := zbv hge e
      rcases List.mem_cons.1 hx2 with h2 | h2
      · rw [h2]; exact hs1
      · have hp : Asd (xs.drop (ahd s xs)) := List.Pairwise.sublist (List.drop_sublist _ _) ha
        rw [List.drop_eq_getElem_cons hlt] at hp
        exact zaS hs1 ((List.pairwise_cons.1 hp).1 x h2)
  · rw [decide_eq_false (by omega), cond_false, cond_false, hput]
    refine hfin (fun x hx2 => ?_)
    rw [List.drop_eq_nil_of_le (by omega)] at hx2
    simp at hx2
def RB (n : Nat) (v : Review) : Prop := v.Branch.length ≤ 4 ∧ v.Into.length ≤ 4 ∧ v.By.length ≤ 4 ∧ LB n v.Yes
theorem RB.fit {n : Nat} {v : Review} (h : RB n v) (hn : n ≤ 1000) : Bk.fit v :=
  ⟨by have := h.1; show v.Branch.length ≤ zam; unfold zam; omega, by have := h.2.1; show v.Into.length ≤ zam; unfold zam; omega, by have := h.2.2.1; show v.By.length ≤ zam; unfold zam; omega, h.2.2.2.fit (by omega)⟩
def curS (c : UInt8) : Str → Str → List Str
  | w, [] => [w]
  | w, x :: r => bif x == c then w :: curS c [] r else curS c (w ++ [x]) r
def zeq (c : UInt8) : Nat → Str → Str → List Str
  | _, w, [] => [w]
  | 0, w, x :: r => [w ++ x :: r]
  | n + 1, w, x :: r => bif x == c then w :: zeq c n [] r else zeq c (n + 1) (w ++ [x]) r
theorem zjw (c : UInt8) : ∀ (r w : Str), 1 ≤ (curS c w r).length
  | [], w => by simp [curS]
  | x :: r, w => by
    unfold curS
    cases x == c
    · exact zjw c r _
    · simp
theorem zez (c : UInt8) (w r : Str) : zeq c 0 w r = [w ++ r] := by
  cases r <;> simp [zeq]
theorem zdn (c : UInt8) : ∀ (r : Str) (n : Nat) (w : Str), (curS c w r).length ≤ n + 1 → zeq c n w r = curS c w r
  | [], n, w, h => by cases n <;> simp [zeq, curS]
  | x :: r, 0, w, h => by
    unfold curS at h ⊢
    cases hx : x == c with
    | true =>
      rw [hx, cond_true] at h
      have := zjw c r []
      rw [List.length_cons] at h
      omega
    | false =>
      rw [hx, cond_false] at h
      have ih := zdn c r 0 (w ++ [x]) h
      rw [cond_false, ← ih, zez, zez]
      simp
  | x :: r, n + 1, w, h => by
    unfold curS at h ⊢
    unfold zeq
    cases hx : x == c with
    | true =>
      rw [hx, cond_true, List.length_cons] at h
      rw [cond_true, cond_true, zdn c r n [] (by omega)]
    | false =>
      rw [hx, cond_false] at h
      rw [cond_false, cond_false, zdn c r (n + 1) _ h]
theorem zeM (c : UInt8) : ∀ (r : Str) (n : Nat) (w : Str), n + 1 ≤ (curS c w r).length → (zeq c n w r).length = n + 1
  | [], n, w, h => by
    simp [curS] at h
    subst h
    simp [zeq]
  | x :: r, 0, w, h => by simp [zeq]
  | x :: r, n + 1, w, h => by
    unfold curS at h
    unfold zeq
    cases hx : x == c with
    | true =>
      rw [hx, cond_true, List.length_cons] at h
      rw [cond_true, List.length_cons, zeM c r n [] (by omega)]
    | false =>
      rw [hx, cond_false] at h
      rw [cond_false, zeM c r (n + 1) _ h]
theorem zjJ {c : UInt8} {w : Str} (h : c ∉ w) : Lib.index w [c] = -1 := Lib.index_none fun j hj => by
  cases ho : Lib.occAt w [c] j with
  | false => rfl
  | true => exact absurd (List.mem_of_getElem? (Lib.occAt_head rfl ho)) h
theorem zkL {c : UInt8} {w r : Str} (h : c ∉ w) : Lib.index (w ++ c :: r) [c] = ((w.length : Nat) : Int) := Lib.index_first (by simp) (by simp [Lib.occAt, List.isPrefixOf]) fun j hj => by
  cases ho : Lib.occAt (w ++ c :: r) [c] j with
  | false => rfl
  | true =>
    have := Lib.occAt_head rfl ho
    rw [List.getElem?_append_left hj] at this
    exact absurd (List.mem_of_getElem? this) h
theorem zgf (c : UInt8) : ∀ (r w : Str), c ∉ w → Lib.split (w ++ r) [c] = curS c w r
  | [], w, h => by
    unfold Lib.split curS
    rw [List.append_nil, Lib.count_miss (zjJ h)]
    rfl
  | x :: r, w, h => by
    unfold curS
    cases hx : x == c with
    | true =>
      have e : x = c := by simpa using hx
      subst e
      have hi := zkL (r := r) h
      rw [cond_true]
      have ih := zgf x r [] (by simp)
      unfold Lib.split at ih ⊢
      have hd : (w ++ x :: r).drop (w.length + 1) = r := by
        rw [show w ++ x :: r = (w ++ [x]) ++ r by simp, List.drop_left' (by simp)]
      have hc : Lib.count (w ++ x :: r) [x] = Lib.count r [x] + 1 := by
        rw [Lib.count_hit (by simp) hi]
        show 1 + Lib.count ((w ++ x :: r).drop (w.length + 1)) [x] = _
        rw [hd]
        omega
      rw [hc]
      unfold Lib.splitK
      rw [if_neg (by rw [hi]; simp), hi]
      have e1 : (w ++ x :: r).take (((w.length : Nat) : Int).toNat + 0) = w := by simp
      have e2 : (w ++ x :: r).drop (((w.length : Nat) : Int).toNat + [x].length) = r := hd
      rw [e1, e2]
      simp only [List.nil_append] at ih
      rw [ih]
    | false =>
      have hne : x ≠ c := by simpa using hx
      rw [cond_false, show w ++ x :: r = (w ++ [x]) ++ r by simp]
      exact zgf c r (w ++ [x]) (by
        rw [List.mem_append, List.mem_singleton]
        rintro (h1 | h1)
        · exact h h1
        · exact hne h1.symm)
theorem zly (c : UInt8) (s : Str) : Lib.split s [c] = curS c [] s := zgf c s [] (by simp)
theorem zi0 (u c : UInt8) : (((UInt8.toNat u : Nat) : Int) == ((UInt8.toNat c : Nat) : Int)) = (u == c) := by
  have : ∀ b c : Bool, (b = true ↔ c = true) → b = c := by decide
  apply this
  rw [beq_iff_eq, beq_iff_eq, ← UInt8.toNat_inj]
  omega
theorem zkM {s : Str} {c : UInt8} {most : Nat} (hs : s.length ≤ 1048576) (hm : most ≤ 1000) : ∀ (n : Nat) (out : List Str) (from_ i m : Nat), i + n = s.length → n < m → from_ ≤ i → out.length ≤ most →
    zeQ s c (most : Int) (fun y3 y6 y7 => (slM s y6 (s.length : Int)).bind fun q38 => (apM y3 [q38]).bind fun q43 => some q43) m out (from_ : Int) (i : Int) = some (out ++ zeq c (most - out.length) ((s.take i).drop from_) (s.drop i))
  | n, out, f, i, 0, _, hm, _, _ => by omega
  | n, out, f, i, m + 1, hi, hn, hf, ho => by
    have hdone : (slM s (f : Int) (s.length : Int)).bind (fun q38 => (apM out [q38]).bind fun q43 => some q43) = some (out ++ [s.drop f]) := by
      rw [zjb (by omega), Option.bind_some, ap1 (by omega), Option.bind_some]
    have hw : (s.take i).drop f ++ s.drop i = s.drop f := by
      rw [← List.drop_append_of_le_length (by simp; omega), List.take_append_drop]
    simp only [zeQ, jn]
    by_cases h1 : (i : Int) < (s.length : Int)
    case neg =>
      rw [decide_eq_false h1, cond_false, cond_false, hdone]
      have : s.drop i = [] := List.drop_eq_nil_of_le (by omega)
      rw [this] at hw ⊢
      rw [List.append_nil] at hw
      rw [hw]
      cases most - out.length <;> simp [zeq]
    rw [decide_eq_true h1, cond_true]
    have hlt : i < s.length := by omega
    have hx : s[i]? = some s[i] := List.getElem?_eq_getElem hlt
    by_cases h2 : (out.length : Int) < (most : Int)
    case neg =>
      rw [decide_eq_false h2, cond_false, hdone]
      have : most - out.length = 0 := by omega
      rw [this, zez, hw]
    obtain ⟨n, rfl⟩ : ∃ k, n = k + 1 := ⟨n - 1, by omega⟩
    obtain ⟨k, hk⟩ : ∃ k, most - out.length = k + 1 := ⟨most - out.length - 1, by omega⟩
    rw [decide_eq_true h2, cond_true, zg3 hx, Option.bind_some, zi0, hk, List.drop_eq_getElem_cons hlt]
    unfold zeq
    cases hb : s[i] == c with
    | true =>
      rw [cond_true, cond_true, zf2 (by omega) (by omega) (by omega), Option.bind_some, ap1 (by omega), Option.bind_some, zag hlt (by unfold zam; omega), zkM hs hm n _ (i + 1) (i + 1) m (by omega) (by omega) (by omega) (by simp; omega)]
      have e1 : most - (out ++ [((s.take ((i : Nat) : Int).toNat)).drop ((f : Nat) : Int).toNat]).length = k := by simp; omega
      have e2 : (s.take (i + 1)).drop (i + 1) = [] := List.drop_eq_nil_of_le (by simp; omega)
      rw [e1, e2]
      simp
    | false =>
      rw [cond_false, cond_false, zag hlt (by unfold zam; omega), zkM hs hm n _ f (i + 1) m (by omega) (by omega) (by omega) ho, hk]
      have e2 : (s.take (i + 1)).drop f = (s.take i).drop f ++ [s[i]] := by
        rw [List.take_add_one, hx]
        rw [List.drop_append_of_le_length (by simp; omega)]
        rfl
      rw [e2]
theorem zlz {s : Str} {c : UInt8} {most : Nat} (hs : s.length ≤ 1048576) (hm : most ≤ 1000) : zhm s c (most : Int) = some (zeq c most [] s) := by
  unfold zhm
  simp only [jn]
  have := zkM (c := c) (most := most) hs hm s.length [] 0 0 (s.length + 1) (by omega) (by omega) (Nat.le_refl _) (by simp)
  simpa using this
def zaM (s : Str) : Bool := decide ((curS 47 [] s).length ≤ 3) && (curS 47 [] s).all zaD
theorem zhG (c : UInt8) : ∀ (r w : Str), ∀ p ∈ curS c w r, p.length ≤ w.length + r.length
  | [], w, p, h => by simp [curS] at h; rw [h]; omega
  | x :: r, w, p, h => by
    unfold curS at h
    cases hx : x == c with
    | true =>
      rw [hx, cond_true] at h
      rcases List.mem_cons.1 h with e | e
      · rw [e]; omega
      · have := zhG c r [] p e
        simp at this ⊢
        omega
    | false =>
      rw [hx, cond_false] at h
      have := zhG c r (w ++ [x]) p h
      simp at this ⊢
      omega
theorem zfQ (c : UInt8) : ∀ (r w : Str), (curS c w r).length ≤ r.length + 1
  | [], w => by simp [curS]
  | x :: r, w => by
    unfold curS
    cases x == c
    · have := zfQ c r (w ++ [x]); simp at this ⊢; omega
    · have := zfQ c r []; simp at this ⊢; omega
theorem zcK {s : Str} (h : s.length ≤ 1048576) : zfq s = some (zaM s) := by
  unfold zfq zgw zaM
  rw [if_pos ⟨by omega, by simp⟩, Option.bind_some, zly]
  have hl := zfQ 47 s []
  by_cases h3 : (3 : Int) < ((curS 47 [] s).length : Int)
  · rw [decide_eq_true h3, cond_true, decide_eq_false (by omega)]; rfl
  rw [decide_eq_false h3, cond_false, decide_eq_true (by omega), Bool.true_and]
  simp only [jn, zas]
  rw [zaK (α := Str) (xs := curS 47 [] s) (p := zaD) (r0 := some false) (Z := some true) (f := fun m i => zcx (curS 47 [] s) (fun _ _ => some true) m false i) (fun m i x hx => by
    have hf := zhG 47 s [] x (List.mem_of_getElem? hx)
    simp only [zcx, zaq hx, zae hx, cond_true, Option.bind_some, zag (zav hx) (show (curS 47 [] s).length ≤ zam by unfold zam; omega), zeZ (show x.length ≤ zam by unfold zam; simp at hf; omega)]
    cases zaD x <;> rfl) (fun m => by simp only [zcx, zai, cond_false]) (by omega)]
  cases (curS 47 [] s).all zaD <;> rfl
theorem zhd (c : UInt8) : ∀ (r : Str) (n : Nat) (w : Str), ∀ p ∈ zeq c n w r, p.length ≤ w.length + r.length
  | [], n, w, p, h => by cases n <;> simp [zeq] at h <;> rw [h] <;> omega
  | x :: r, 0, w, p, h => by simp [zeq] at h; rw [h]; simp
  | x :: r, n + 1, w, p, h => by
    unfold zeq at h
    cases hx : x == c with
    | true =>
      rw [hx, cond_true] at h
      rcases List.mem_cons.1 h with e | e
      · rw [e]; omega
      · have := zhd c r n [] p e
        simp at this ⊢
        omega
    | false =>
      rw [hx, cond_false] at h
      have := zhd c r (n + 1) (w ++ [x]) p h
      simp at this ⊢
      omega
theorem zeN {s : Str} (h : s.length ≤ 1048576) : zes s = some (zaM s) := by
  unfold zes zaM
  have e47 : (UInt8.ofNatLT 47 (by decide) : UInt8) = 47 := by decide
  have hc := zlz (c := UInt8.ofNatLT 47 (by decide)) (most := 3) h (by omega)
  rw [show (3 : Int) = ((3 : Nat) : Int) from rfl, hc, Option.bind_some, e47]
  simp only [jn, zas]
  have hlen : (zeq 47 3 [] s).length ≤ zam := by
    rcases Nat.lt_or_ge (curS 47 [] s).length 4 with h1 | h1
    · rw [zdn 47 s 3 [] (by omega)]; unfold zam; omega
    · rw [zeM 47 s 3 [] h1]; unfold zam; omega
  rw [zaK (α := Str) (xs := zeq 47 3 [] s) (p := zaD) (r0 := some false) (Z := some (decide (((zeq 47 3 [] s).length : Int) ≤ ((3 : Nat) : Int)))) (f := fun m i => zcm (zeq 47 3 [] s) (fun _ _ => some (decide (((zeq 47 3 [] s).length : Int) ≤ ((3 : Nat) : Int)))) m false i) (fun m i x hx => by
    have hf := zhd 47 s 3 [] x (List.mem_of_getElem? hx)
    simp only [zcm, zaq hx, zae hx, cond_true, Option.bind_some, zag (zav hx) hlen, zbf (show x.length ≤ zam by unfold zam; simp at hf; omega)]
    cases zaD x <;> rfl) (fun m => by simp only [zcm, zai, cond_false]) (by omega)]
  rcases Nat.lt_or_ge (curS 47 [] s).length 4 with h1 | h1
  · rw [zdn 47 s 3 [] (by omega), decide_eq_true (show ((curS 47 [] s).length : Int) ≤ ((3 : Nat) : Int) by omega), decide_eq_true (show (curS 47 [] s).length ≤ 3 by omega)]
    cases (curS 47 [] s).all zaD <;> rfl
  · rw [zeM 47 s 3 [] h1, decide_eq_false (show ¬ (curS 47 [] s).length ≤ 3 by omega)]
    cases (zeq 47 3 [] s).all zaD <;> rfl
theorem zh0 (a b : Str) : (Op.bytesLess a b || a == b) = !Op.bytesLess b a := by
  rw [zaR, zaR]
  by_cases h : b < a
  · have h1 : ¬ a < b := fun h2 => zaj a (zaS h2 h)
    have h2 : ¬ a = b := fun e => by rw [e] at h; exact zaj b h
    simp [h, h1, h2]
  · by_cases e : a = b
    · simp [h, e]
    · have := zbv (zhE.1 h) e
      simp [h, this]
def OB (xs : List Owner) : Prop := xs.length ≤ 1048576 ∧ ∀ x ∈ xs, x.Path.length ≤ 1048576 ∧ x.Who.length ≤ 1048576
theorem OB.of {xs : List Owner} (h : Bk.bulk xs ≤ 1048576) : OB xs := ⟨zdE h, fun x hx => by
  have h1 : Bk.bulk x ≤ 1048576 := zhk h hx
  have h2 : Bk.bulk x = x.Path.length + x.Who.length := rfl
  omega⟩
theorem OB.at_ {xs : List Owner} (h : OB xs) {i : Nat} {x : Owner} (hx : xs[i]? = some x) : x.Path.length ≤ 1048576 ∧ x.Who.length ≤ 1048576 := h.2 x (List.mem_of_getElem? hx)
def za2 (d p : Str) : Bool := (d ++ [47]).isPrefixOf p
theorem zkN {d p : Str} (hd : d.length ≤ 1048576) (hp : p.length ≤ 1048576) (h1 : zaM d = true) (h2 : zaM p = true) : zb4 d p = some (za2 d p) := by
  unfold zb4 zeh za2
  have hs : saM d ([47] : Str) = some (d ++ [47]) := by
    unfold saM
    rw [if_pos]
    simp only [List.length_cons, List.length_nil, lim]
    omega
  simp only [jn, zcK hd, zcK hp, h1, h2, Option.bind_some, cond_true, hs, Lib.hasPrefix]
theorem zgg {c : UInt8} : ∀ {d p : Str}, (d ++ [c]).isPrefixOf p = (p.take d.length == d && p[d.length]? == some c)
  | [], [] => by simp
  | [], x :: p => by
    by_cases e : c = x
    · subst e; simp [List.isPrefixOf]
    · have e1 : (c == x) = false := beq_false_of_ne e
      have e2 : ((some x : Option UInt8) == some c) = false := beq_false_of_ne (fun h => e (Option.some.inj h).symm)
      simp only [List.nil_append, List.isPrefixOf, e1, List.length_nil, List.take_zero, List.getElem?_cons_zero, e2, Bool.false_and, Bool.and_false]
  | y :: d, [] => by simp [List.isPrefixOf]
  | y :: d, x :: p => by
    have ih := zgg (c := c) (d := d) (p := p)
    simp only [List.cons_append, List.isPrefixOf, List.length_cons, List.take_succ_cons, List.getElem?_cons_succ, ih]
    by_cases e : y = x
    · subst e
      simp
    · have e1 : (y == x) = false := beq_false_of_ne e
      have e2 : (x == y) = false := beq_false_of_ne (fun h => e h.symm)
      simp [e1, e2]
theorem zi1 {d p : Str} (hp : p.length ≤ 1048576) : zhy d p = some (za2 d p) := by
  unfold zhy za2
  simp only [jn]
  rw [zgg]
  by_cases hl : (d.length : Int) < (p.length : Int)
  · have hlt : d.length < p.length := by omega
    have hx : p[d.length]? = some p[d.length] := List.getElem?_eq_getElem hlt
    rw [decide_eq_true hl, cond_true, zhj (by omega), Option.bind_some, hx]
    cases p.take d.length == d with
    | false => rfl
    | true =>
      rw [cond_true, zg3 hx, Option.bind_some, Bool.true_and]
      congr 1
      have := (show ∀ u : UInt8, (((UInt8.toNat u : Nat) : Int) == (47 : Int)) = (some u == some (47 : UInt8)) from fun u => by
        have hb := zi0 u 47
        rw [show (((UInt8.toNat (47 : UInt8) : Nat) : Int)) = 47 from rfl] at hb
        rw [hb]
        simp)
      exact this _
  · rw [decide_eq_false hl, cond_false, List.getElem?_eq_none (by omega)]
    simp
def zme (s : Str) : Bool := s.all fun c => !(c == 124)
def zf1 (t : List Str) : Bool := t.all zme
theorem zi2 {t : List Str} (h : Bk.fit t) : zeR t = some (zf1 t && zar t) := by
  have hl := zkm h
  unfold zeR zf1
  simp only [jn, zas, ziX h, Option.bind_some]
  rw [zaK (α := Str) (xs := t) (p := zme) (r0 := some false) (Z := some (zar t)) (f := fun m i => zaO t (fun _ _ => some (zar t)) m false i) (fun m i x hx => by
    have hx2 : x.length ≤ zam := zlV h hx
    have b124 : ∀ u : UInt8, (((UInt8.toNat u : Nat) : Int) == (124 : Int)) = (u == 124) := fun u => by
      have hb := zi0 u 124
      rw [show (((UInt8.toNat (124 : UInt8) : Nat) : Int)) = 124 from rfl] at hb
      exact hb
    simp only [zaO, zaq hx, zae hx, cond_true, jn, Option.getD_some]
    rw [zaK (α := UInt8) (xs := x) (p := fun c => !(c == 124)) (r0 := some false) (Z := zaO t (fun _ _ => some (zar t)) m false ((i + 1 : Nat) : Int)) (f := fun m' k => zbC t (i : Int) (fun y10 y11 => zaO t (fun _ _ => some (zar t)) m y10 (w64 ((i : Int) + 1))) m' false k) (fun m' k c hc => by
      simp only [zbC, zae hx, Option.bind_some, zaq hc, cond_true, zg3 hc, b124, zag (zav hc) hx2]
      cases c == 124 <;> rfl) (fun m' => by simp only [zbC, zae hx, Option.bind_some, zai, cond_false, zag (zav hx) hl]) (by omega)]
    rfl) (fun m => by simp only [zaO, zai, cond_false]) (by omega)]
  cases t.all zme <;> rfl
def opB (o : Op) : Bool :=
  zaD o.Branch && (zaD o.Who &&
    (bif o.Kind == 1 then zaM o.Path && (zar o.Text && (zf1 o.Text && (o.To == [] && o.At == 0)))
     else bif o.Kind == 2 then zaM o.Path && (o.To == [] && (o.At == 0 && (o.Text.length : Int) == 0))
     else bif o.Kind == 3 then zaM o.Path && (zaM o.To && (o.At == 0 && (o.Text.length : Int) == 0))
     else bif o.Kind == 4 || o.Kind == 5 then zaD o.To && (o.Path == [] && (o.At == 0 && (o.Text.length : Int) == 0))
     else bif o.Kind == 6 || o.Kind == 7 then (decide (0 ≤ o.At) && decide (o.At ≤ 15)) && (o.Path == [] && (o.To == [] && (o.Text.length : Int) == 0))
     else false))
structure OpFit (o : Op) : Prop where
  fit : Bk.fit o
  path : o.Path.length ≤ 1048576
  to : o.To.length ≤ 1048576
  text : Bk.bulk o.Text ≤ 1048576
theorem OpFit.of {o : Op} (h : Bk.fit o) (hb : Bk.bulk o ≤ 1048576) : OpFit o := by
  have e : Bk.bulk o = Bk.bulk o.Kind + (Bk.bulk o.Branch + (Bk.bulk o.Who + (Bk.bulk o.Path + (Bk.bulk o.To + (Bk.bulk o.At + Bk.bulk o.Text))))) := rfl
  have e1 : Bk.bulk o.Path = o.Path.length := rfl
  have e2 : Bk.bulk o.To = o.To.length := rfl
  exact ⟨h, by omega, by omega, by omega⟩
theorem zmK (o : Op) (p q r s : Bool) : zec o p q r s = some ((p || o.Path == []) && ((q || o.To == []) && ((r || o.At == 0) && (s || (o.Text.length : Int) == 0)))) := by
  unfold zec
  simp only [jn]
  cases p <;> cases q <;> cases r <;> cases s <;> cases (o.Path == ([] : Str)) <;> cases (o.To == ([] : Str)) <;> cases ((o.At : Int) == (0 : Int)) <;> rfl
theorem zlA {o : Op} (h : OpFit o) : zhn o = some (opB o) := by
  obtain ⟨f0, f1, f2, f3, f4, f5, f6⟩ := h.fit
  unfold zhn opB
  simp only [jn, zbf f1, zbf f2, zbf f4, zeN h.path, zeN h.to, zi2 f6, zmK, Option.bind_some, zeg]
  cases zaD o.Branch
  · rfl
  cases zaD o.Who
  · rfl
  simp only [Bool.not_true, cond_false, Bool.true_and, Bool.true_or, Bool.false_or, Bool.and_true]
  cases (o.Kind == (1 : Int))
  case true => cases zaM o.Path <;> cases zar o.Text <;> cases zf1 o.Text <;> cases (o.To == ([] : Str)) <;> cases (o.At == (0 : Int)) <;> rfl
  cases (o.Kind == (2 : Int))
  case true => cases zaM o.Path <;> cases (o.To == ([] : Str)) <;> cases (o.At == (0 : Int)) <;> cases ((o.Text.length : Int) == 0) <;> rfl
  cases (o.Kind == (3 : Int))
  case true => cases zaM o.Path <;> cases zaM o.To <;> cases (o.At == (0 : Int)) <;> cases ((o.Text.length : Int) == 0) <;> rfl
  simp only [cond_false]
  cases (o.Kind == (4 : Int)) <;> cases (o.Kind == (5 : Int)) <;> cases (o.Kind == (6 : Int)) <;> cases (o.Kind == (7 : Int)) <;> cases zaD o.To <;> cases (o.Path == ([] : Str)) <;> cases (o.At == (0 : Int)) <;> cases (o.To == ([] : Str)) <;> cases ((o.Text.length : Int) == 0) <;> cases (decide (0 ≤ o.At) && decide (o.At ≤ 15)) <;> rfl
theorem zc2 : ∀ {b c : Bool}, (b = true ↔ c = true) → b = c := by decide
theorem zkO {i n : Nat} (hi : i < n) (hn : n ≤ zam) (h0 : (0 : Int) < (i : Int)) : w64 ((i : Int) - 1) = ((i - 1 : Nat) : Int) := by
  rw [zah (by omega) (by unfold zam at hn; omega)]; omega
structure FB (f : File) : Prop where
  path : f.Path.length ≤ 1048576
  len : f.Text.length ≤ 1048576
  text : Bk.fit f.Text
def TB (t : List File) : Prop := t.length ≤ 1048576 ∧ ∀ f ∈ t, FB f
theorem TB.at_ {t : List File} (h : TB t) {i : Nat} {f : File} (hf : t[i]? = some f) : FB f := h.2 f (List.mem_of_getElem? hf)
theorem TB.maxi {t : List File} (h : TB t) : t.length ≤ zam := zan h.1
theorem TB.nil : TB [] := ⟨by simp, fun f hf => by simp at hf⟩
def zdi : File := ⟨[], []⟩
theorem zbk {t : List File} {i : Nat} {f : File} (h : t[i]? = some f) : t.getD i zdi = f := by simp [List.getD, h]
theorem zjx {t : List File} {i : Nat} {f : File} (h : t[i]? = some f) (hl : t.length ≤ zam) (h0 : (0 : Int) < (i : Int)) : ∃ y, gi t (w64 ((i : Int) - 1)) = some y ∧ t.getD (i - 1) zdi = y := by
  have hi := zav h
  have hx : t[i - 1]? = some t[i - 1] := List.getElem?_eq_getElem (by omega)
  exact ⟨_, by rw [zkO hi hl h0]; exact zae hx, zbk hx⟩
def zgh (t : List File) (i : Nat) : Bool := zaM (t.getD i zdi).Path && (zar (t.getD i zdi).Text && (bif decide (0 < (i : Int)) then Op.bytesLess (t.getD (i - 1) zdi).Path (t.getD i zdi).Path else true))
def zgi (t : List File) (i : Nat) : Bool := zgh t i && t.all fun f => !za2 (t.getD i zdi).Path f.Path
def zi3 (t : List File) (i : Nat) : Bool := zgh t i && (t.take i).all fun f => !(zaM f.Path && (zaM (t.getD i zdi).Path && za2 f.Path (t.getD i zdi).Path))
def zap (t : List File) : Bool := decide ((t.length : Int) ≤ 8) && zgM (zgi t) 0 t.length
theorem zmL (d : Str) (x : UInt8) (r : Str) : d < d ++ x :: r := by
  induction d with
  | nil => exact List.nil_lt_cons _ _
  | cons a d ih => exact List.cons_lt_cons_self.2 ih
theorem zlB {d p : Str} (h : za2 d p = true) : d < p := by
  unfold za2 at h
  obtain ⟨t, rfl⟩ := List.isPrefixOf_iff_prefix.1 h
  rw [List.append_assoc]
  exact zmL d 47 t
theorem zif {t : List File} {n : Nat} (h : ∀ i, i < n → zgh t i = true) {i j : Nat} (hij : i < j) (hj : j < n) : (t.getD i zdi).Path < (t.getD j zdi).Path := by
  induction j with
  | zero => omega
  | succ j ih =>
    have h1 := h (j + 1) hj
    unfold zgh at h1
    rw [decide_eq_true (by omega), cond_true, Nat.add_sub_cancel] at h1
    simp only [Bool.and_eq_true, zaR, decide_eq_true_eq] at h1
    rcases Nat.lt_or_ge i j with h2 | h2
    · exact zaS (ih h2 (by omega)) h1.2.2
    · have : i = j := by omega
      subst this
      exact h1.2.2
theorem zj2 (t : List File) : zgM (zi3 t) 0 t.length = zgM (zgi t) 0 t.length := by
  apply zc2
  rw [zaX, zaX]
  constructor
  · intro h
    have hf : ∀ i, i < t.length → zgh t i = true := fun i hi => by
      have := h i (Nat.zero_le _) (by omega)
      unfold zi3 at this
      simp only [Bool.and_eq_true] at this
      exact this.1
    intro i _ hi
    have hi' : i < t.length := by omega
    unfold zgi
    rw [hf i hi', Bool.true_and, List.all_eq_true]
    intro f hm
    obtain ⟨k, hk⟩ := List.mem_iff_getElem?.1 hm
    have hkl := zav hk
    cases hb : za2 (t.getD i zdi).Path f.Path with
    | false => rfl
    | true =>
      exfalso
      have hlt := zlB hb
      rcases Nat.lt_trichotomy i k with h1 | h1 | h1
      · have := h k (Nat.zero_le _) (by omega)
        unfold zi3 at this
        simp only [Bool.and_eq_true, List.all_eq_true] at this
        have h2 := this.2 t[i] (List.mem_of_getElem? (i := i) (by rw [List.getElem?_take_of_lt h1]; exact List.getElem?_eq_getElem hi'))
        have p1 := hf i hi'
        have p2 := hf k hkl
        unfold zgh at p1 p2
        simp only [Bool.and_eq_true] at p1 p2
        rw [zbk hk] at h2 p2
        rw [zbk (List.getElem?_eq_getElem hi')] at hb p1
        rw [p1.1, p2.1, hb] at h2
        simp at h2
      · subst h1
        rw [zbk hk] at hlt
        exact zaj _ hlt
      · have := zif hf h1 hi'
        rw [zbk hk] at this
        exact zaj _ (zaS hlt this)
  · intro h i _ hi
    have hi' : i < t.length := by omega
    have h1 := h i (Nat.zero_le _) hi
    unfold zgi at h1
    simp only [Bool.and_eq_true] at h1
    unfold zi3
    rw [h1.1, Bool.true_and, List.all_eq_true]
    intro f hm
    obtain ⟨k, hk⟩ := List.mem_iff_getElem?.1 hm
    obtain ⟨hk', hki⟩ := show t[k]? = some f ∧ k < i from by
      rw [List.getElem?_take] at hk
      split at hk
      · exact ⟨hk, by assumption⟩
      · cases hk
    have h2 := h k (Nat.zero_le _) (by omega)
    unfold zgi at h2
    simp only [Bool.and_eq_true, List.all_eq_true] at h2
    have h3 := h2.2 t[i] (List.getElem_mem hi')
    rw [zbk hk'] at h3
    rw [zbk (List.getElem?_eq_getElem hi')]
    have h4 : za2 f.Path t[i].Path = false := by simpa using h3
    rw [h4]
    simp
theorem zer {t : List File} (h : TB t) : zdD t = some (zap t) := by
  have hm := h.maxi
  unfold zdD zap
  simp only [jn, zas]
  rw [zcW (n := t.length) (g := zgi t) (r0 := some false) (Z := some (decide ((t.length : Int) ≤ 8))) (f := fun m i => zdV t (fun _ _ => some (decide ((t.length : Int) ≤ 8))) m false i) (fun m i hi => by
    have hx : t[i]? = some t[i] := List.getElem?_eq_getElem hi
    have fx := h.at_ hx
    simp only [zdV, jn, zaq hx, zae hx, cond_true, Option.bind_some, zag hi hm, zeN fx.path, ziX fx.text]
    unfold zgi zgh
    rw [zbk hx]
    have hin : ∀ K : Bool → Int → Option Bool, zca t (i : Int) K (t.length + 1) false 0 = bif t.all (fun f => !za2 t[i].Path f.Path) then K false (t.length : Int) else some false := fun K => by
      rw [zaK (α := File) (xs := t) (p := fun f => !za2 t[i].Path f.Path) (r0 := some false) (Z := K false (t.length : Int)) (f := fun m k => zca t (i : Int) K m false k) (fun m k f hf => by
        simp only [zca, zaq hf, zae hf, zae hx, cond_true, Option.bind_some, zag (zav hf) hm, zi1 (h.at_ hf).path]
        cases za2 t[i].Path f.Path <;> rfl) (fun m => by simp only [zca, zai, cond_false]) (by omega)]
    cases zaM t[i].Path
    · rfl
    cases zar t[i].Text
    · rfl
    simp only [Bool.not_true, cond_false, Bool.true_and]
    by_cases h0 : (0 : Int) < (i : Int)
    · obtain ⟨y, hy, ey⟩ := zjx hx hm h0
      rw [hy, ey, decide_eq_true h0]
      simp only [Option.bind_some, zh0, cond_true]
      cases Op.bytesLess y.Path t[i].Path
      · rfl
      · simp only [Bool.not_true, cond_false, Bool.true_and, zas, hin]
    · rw [decide_eq_false h0]
      simp only [cond_false, Bool.true_and, zas, hin]) (fun m => by simp only [zdV, zai, cond_false]) _ (by omega)]
  cases decide ((t.length : Int) ≤ 8) <;> cases zgM (zgi t) 0 t.length <;> rfl
theorem zj3 {d p : Str} (hd : d.length ≤ 1048576) (hp : p.length ≤ 1048576) : zb4 d p = some (zaM d && (zaM p && za2 d p)) := by
  cases h1 : zaM d with
  | false => unfold zb4; simp only [jn, zcK hd, h1, Option.bind_some, cond_false, Bool.false_and]
  | true =>
    cases h2 : zaM p with
    | false => unfold zb4; simp only [jn, zcK hd, zcK hp, h1, h2, Option.bind_some, cond_false, cond_true, Bool.false_and, Bool.and_false]
    | true => rw [zkN hd hp h1 h2]; rfl
theorem zdO {t : List File} (h : TB t) : zdb t = some (zap t) := by
  have hm := h.maxi
  unfold zdb zap
  by_cases h8 : (8 : Int) < (t.length : Int)
  · rw [decide_eq_true h8, decide_eq_false (by omega)]; rfl
  rw [decide_eq_false h8, decide_eq_true (by omega), cond_false, Bool.true_and, ← zj2]
  simp only [jn, zas]
  rw [zcW (n := t.length) (g := zi3 t) (r0 := some false) (Z := some true) (f := fun m i => zcy t (fun _ _ => some true) m false i) (fun m i hi => by
    have hx : t[i]? = some t[i] := List.getElem?_eq_getElem hi
    have fx := h.at_ hx
    simp only [zcy, jn, zaq hx, zae hx, cond_true, Option.bind_some, zag hi hm, zcK fx.path, zdM fx.text, zhj (Nat.le_of_lt hi), zas]
    unfold zi3 zgh
    rw [zbk hx]
    have hin : ∀ K : Bool → Int → Option Bool, zbq t[i] (t.take i) K ((t.take i).length + 1) false 0 = bif (t.take i).all (fun f => !(zaM f.Path && (zaM t[i].Path && za2 f.Path t[i].Path))) then K false ((t.take i).length : Int) else some false := fun K => by
      rw [zaK (α := File) (xs := t.take i) (p := fun f => !(zaM f.Path && (zaM t[i].Path && za2 f.Path t[i].Path))) (r0 := some false) (Z := K false ((t.take i).length : Int)) (f := fun m k => zbq t[i] (t.take i) K m false k) (fun m k f hf => by
        have hf2 : FB f := h.2 f (List.mem_of_mem_take (List.mem_of_getElem? hf))
        simp only [zbq, zaq hf, zae hf, cond_true, Option.bind_some, zag (zav hf) (show (t.take i).length ≤ zam by simp; omega), zj3 hf2.path fx.path]
        cases (zaM f.Path && (zaM t[i].Path && za2 f.Path t[i].Path)) <;> rfl) (fun m => by simp only [zbq, zai, cond_false]) (by omega)]
    cases zar t[i].Text
    · cases zaM t[i].Path <;> rfl
    cases hp : zaM t[i].Path
    · rfl
    simp only [Bool.not_true, cond_false, Bool.true_and]
    by_cases h0 : (0 : Int) < (i : Int)
    · obtain ⟨y, hy, ey⟩ := zjx hx hm h0
      rw [hy, ey, decide_eq_true h0]
      simp only [Option.bind_some, cond_true]
      cases Op.bytesLess y.Path t[i].Path
      · rfl
      · simp only [Bool.not_true, cond_false, Bool.true_and, zas, hin, hp]
    · rw [decide_eq_false h0]
      simp only [cond_false, Bool.true_and, zas, hin, hp]) (fun m => by simp only [zcy, zai, cond_false]) _ (by omega)]
  cases zgM (zi3 t) 0 t.length <;> rfl
structure CB (c : Commit) : Prop where
  par : c.Parents.length ≤ 1048576
  who : c.Who.length ≤ 1048576
  tree : TB c.Tree
structure RpB (r : Repo) : Prop where
  coms : r.Commits.length ≤ 1048576
  com : ∀ c ∈ r.Commits, CB c
  heads : r.Heads.length ≤ 1048576
  head : ∀ h ∈ r.Heads, h.Name.length ≤ 1048576
theorem RpB.cat {r : Repo} (h : RpB r) {i : Nat} {c : Commit} (hc : r.Commits[i]? = some c) : CB c := h.com c (List.mem_of_getElem? hc)
theorem RpB.hat {r : Repo} (h : RpB r) {i : Nat} {c : Head} (hc : r.Heads[i]? = some c) : c.Name.length ≤ 1048576 := h.head c (List.mem_of_getElem? hc)
def zen : Head := ⟨[], 0⟩
theorem za8 {t : List Head} {i : Nat} {f : Head} (h : t[i]? = some f) : t.getD i zen = f := by simp [List.getD, h]
theorem zjy {t : List Head} {i : Nat} {f : Head} (h : t[i]? = some f) (hl : t.length ≤ zam) (h0 : (0 : Int) < (i : Int)) : ∃ y, gi t (w64 ((i : Int) - 1)) = some y ∧ t.getD (i - 1) zen = y := by
  have hi := zav h
  have hx : t[i - 1]? = some t[i - 1] := List.getElem?_eq_getElem (by omega)
  exact ⟨_, by rw [zkO hi hl h0]; exact zae hx, za8 hx⟩
def upB (i p : Int) : Bool := decide (0 ≤ p) && decide (p ≤ i - 1)
def zlY (ps : List Int) : Bool := match ps with
  | [p, q] => !(p == q)
  | _ => true
def zki (i : Int) (c : Commit) : Bool := c.Parents.all (upB i) && (decide ((c.Parents.length : Int) ≤ 2) && (zlY c.Parents && (zaD c.Who && zap c.Tree)))
def noCommit : Commit := ⟨[], [], []⟩
def zkq (cs : List Commit) : Bool := zgM (fun i => zki i (cs.getD i noCommit)) 0 cs.length
def zfl (n : Nat) (hs : List Head) (i : Nat) : Bool := zaD (hs.getD i zen).Name && (upB n (hs.getD i zen).At && (bif decide (0 < (i : Int)) then Op.bytesLess (hs.getD (i - 1) zen).Name (hs.getD i zen).Name else true))
def zcD (n : Nat) (hs : List Head) : Bool := zgM (zfl n hs) 0 hs.length && decide ((hs.length : Int) ≤ 5)
def zaa (r : Repo) : Bool := decide ((r.Commits.length : Int) ≤ 16) && (zkq r.Commits && zcD r.Commits.length r.Heads)
theorem zdG {t : List Commit} {i : Nat} {f : Commit} (h : t[i]? = some f) : t.getD i noCommit = f := by simp [List.getD, h]
theorem zeo {n : Nat} (hn : n ≤ zam) : w64 ((n : Int) - 1) = (n : Int) - 1 := zah (by omega) (by unfold zam at hn; omega)
def zmM (i : Int) (ps : List Int) (k : Nat) : Bool := upB i (ps.getD k 0) && !(decide (0 < (k : Int)) && (ps.getD k 0 == ps.getD 0 0))
theorem zcg {t : List Int} {i : Nat} {f : Int} (h : t[i]? = some f) : t.getD i 0 = f := by simp [List.getD, h]
theorem zkP (i : Int) (ps : List Int) (h2 : (ps.length : Int) ≤ 2) : zgM (zmM i ps) 0 ps.length = (ps.all (upB i) && zlY ps) := by
  match ps, h2 with
  | [], _ => rfl
  | [p], _ => simp [zgM, zmM, zlY]
  | [p, q], _ =>
    simp only [zgM, zmM, zlY, List.length_cons, List.length_nil, List.all_cons, List.all_nil]
    have e : (q == p) = (p == q) := by
      apply zc2; rw [beq_iff_eq, beq_iff_eq]; exact eq_comm
    simp [e]
    cases upB i p <;> cases upB i q <;> simp
  | p :: q :: s :: l, h => simp at h; omega
theorem zpV {i : Nat} {c : Commit} (hi : i ≤ 1048576) (hc : CB c) (K : Bool → Int → Option Bool) : zcb (i : Int) c K (c.Parents.length + 1) false 0 = bif zgM (zmM i c.Parents) 0 c.Parents.length then K false (c.Parents.length : Int) else some false := by
  have hm := zan hc.par
  rw [zcW (n := c.Parents.length) (g := zmM i c.Parents) (r0 := some false) (Z := K false (c.Parents.length : Int)) (f := fun m k => zcb (i : Int) c K m false k) (fun m k hk => by
    have hx : c.Parents[k]? = some c.Parents[k] := List.getElem?_eq_getElem hk
    have h00 : c.Parents[0]? = some c.Parents[0] := List.getElem?_eq_getElem (by omega)
    have hg0 : gi c.Parents 0 = some c.Parents[0] := zae (i := 0) h00
    simp only [zcb, jn, zaq hx, zae hx, hg0, cond_true, Option.bind_some, zag hk hm, zeg, zeo (show i ≤ zam by unfold zam; omega)]
    unfold zmM
    rw [zcg hx, zcg h00, show (decide ((0 : Int) ≤ c.Parents[k]) && decide (c.Parents[k] ≤ (i : Int) - 1)) = upB i c.Parents[k] from rfl]
    cases upB (i : Int) c.Parents[k]
    · rfl
    · cases decide ((0 : Int) < (k : Int))
      · rfl
      · cases (c.Parents[k] == c.Parents[0]) <;> rfl) (fun m => by simp only [zcb, zai, cond_false]) _ (by omega)]
theorem zpW {r : Repo} (h : RpB r) : zcc r (fun _ _ => jn (fun (y128 : Bool) => some y128) fun K130 => bif decide (((r.Commits.length : Int) : Int) ≤ (16 : Int)) then (K130 (decide (((r.Heads.length : Int) : Int) ≤ (5 : Int)))) else (K130 false)) (r.Heads.length + 1) false 0 = some (decide ((r.Commits.length : Int) ≤ 16) && zcD r.Commits.length r.Heads) := by
  have hm := zan h.heads
  rw [zcW (n := r.Heads.length) (g := zfl r.Commits.length r.Heads) (r0 := some false) (Z := some (decide ((r.Commits.length : Int) ≤ 16) && decide ((r.Heads.length : Int) ≤ 5))) (f := fun m k => zcc r _ m false k) (fun m k hk => by
    have hx : r.Heads[k]? = some r.Heads[k] := List.getElem?_eq_getElem hk
    simp only [zcc, jn, zaq hx, zae hx, cond_true, Option.bind_some, zag hk hm, zeg, zeo (zan h.coms), zbf (zan (h.hat hx))]
    unfold zfl
    rw [za8 hx, show (decide ((0 : Int) ≤ r.Heads[k].At) && decide (r.Heads[k].At ≤ (r.Commits.length : Int) - 1)) = upB r.Commits.length r.Heads[k].At from rfl]
    cases zaD r.Heads[k].Name
    · rfl
    cases upB r.Commits.length r.Heads[k].At
    · rfl
    by_cases h0 : (0 : Int) < (k : Int)
    · obtain ⟨y, hy, ey⟩ := zjy hx hm h0
      rw [hy, ey, decide_eq_true h0]
      simp only [Option.bind_some, zh0]
      cases Op.bytesLess y.Name r.Heads[k].Name <;> rfl
    · rw [decide_eq_false h0]; rfl) (fun m => by
      simp only [zcc, zai, cond_false, jn]
      cases decide ((r.Commits.length : Int) ≤ 16) <;> rfl) _ (by omega)]
  unfold zcD
  cases zgM (zfl r.Commits.length r.Heads) 0 r.Heads.length <;> cases decide ((r.Commits.length : Int) ≤ 16) <;> rfl
theorem zcI {r : Repo} (h : RpB r) : zcY r = some (zaa r) := by
  have hm := zan h.coms
  unfold zcY zaa zkq
  simp only [jn, zas]
  have h3 := zpW h
  simp only [jn] at h3
  rw [zcW (n := r.Commits.length) (g := fun i => zki i (r.Commits.getD i noCommit)) (r0 := some false) (Z := some (decide ((r.Commits.length : Int) ≤ 16) && zcD r.Commits.length r.Heads)) (f := fun m i => zdX r _ m false i) (fun m i hi => by
    have hx : r.Commits[i]? = some r.Commits[i] := List.getElem?_eq_getElem hi
    have hc := h.cat hx
    have hco := h.coms
    simp only [zdX, jn, zaq hx, zae hx, cond_true, Option.bind_some, zag hi hm, zas, zpV (show i ≤ 1048576 by omega) hc, zdG hx]
    unfold zki
    by_cases h2 : (2 : Int) < (r.Commits[i].Parents.length : Int)
    · rw [decide_eq_true h2, decide_eq_false (show ¬ (r.Commits[i].Parents.length : Int) ≤ 2 by omega)]
      simp only [cond_true, Bool.false_and, Bool.and_false, cond_false]
      cases zgM (zmM i r.Commits[i].Parents) 0 r.Commits[i].Parents.length <;> rfl
    · rw [decide_eq_false h2, decide_eq_true (show (r.Commits[i].Parents.length : Int) ≤ 2 by omega), zkP _ _ (by omega)]
      simp only [cond_false, Bool.true_and, zbf (zan hc.who), zer hc.tree, Option.bind_some]
      cases r.Commits[i].Parents.all (upB i) <;> cases zlY r.Commits[i].Parents <;> cases zaD r.Commits[i].Who <;> cases zap r.Commits[i].Tree <;> rfl) (fun m => by
      simp only [zdX, zai, cond_false, jn, zas, h3]) _ (by omega)]
  cases zgM (fun i => zki i (r.Commits.getD i noCommit)) 0 r.Commits.length <;> cases decide ((r.Commits.length : Int) ≤ 16) <;> rfl
theorem zj4 {r : Repo} (h : RpB r) {hs : List Head} (hl : hs.length ≤ 1048576) (hn : ∀ h ∈ hs, h.Name.length ≤ 1048576) : zfx r hs = some (zcD r.Commits.length hs) := by
  have hm := zan hl
  unfold zfx zcD
  by_cases h5 : (5 : Int) < (hs.length : Int)
  · rw [decide_eq_true h5, decide_eq_false (show ¬ (hs.length : Int) ≤ 5 by omega), Bool.and_false]; rfl
  rw [decide_eq_false h5, decide_eq_true (show (hs.length : Int) ≤ 5 by omega), cond_false, Bool.and_true]
  simp only [jn, zas]
  rw [zcW (n := hs.length) (g := zfl r.Commits.length hs) (r0 := some false) (Z := some true) (f := fun m k => zb5 r hs (fun _ _ => some true) m false k) (fun m k hk => by
    have hx : hs[k]? = some hs[k] := List.getElem?_eq_getElem hk
    simp only [zb5, zbh, jn, zaq hx, zae hx, cond_true, Option.bind_some, zag hk hm, zeL, zeo (zan h.coms), zeZ (zan (hn _ (List.mem_of_getElem? hx)))]
    unfold zfl
    rw [za8 hx, show (decide ((0 : Int) ≤ hs[k].At) && decide (hs[k].At ≤ (r.Commits.length : Int) - 1)) = upB r.Commits.length hs[k].At from rfl]
    cases zaD hs[k].Name
    · rfl
    cases upB r.Commits.length hs[k].At
    · rfl
    by_cases h0 : (0 : Int) < (k : Int)
    · obtain ⟨y, hy, ey⟩ := zjy hx hm h0
      rw [hy, ey, decide_eq_true h0]
      simp only [Option.bind_some]
      cases Op.bytesLess y.Name hs[k].Name <;> rfl
    · rw [decide_eq_false h0]; rfl) (fun m => by simp only [zb5, zai, cond_false]) _ (by omega)]
  cases zgM (zfl r.Commits.length hs) 0 hs.length <;> rfl
theorem zbx {r : Repo} (h : RpB r) : zdc r = some (zaa r) := by
  have hm := zan h.coms
  unfold zdc zaa zkq
  by_cases h16 : (16 : Int) < (r.Commits.length : Int)
  · rw [decide_eq_true h16, decide_eq_false (by omega)]; rfl
  rw [decide_eq_false h16, decide_eq_true (by omega), cond_false, Bool.true_and]
  simp only [jn, zas]
  rw [zcW (n := r.Commits.length) (g := fun i => zki i (r.Commits.getD i noCommit)) (r0 := some false) (Z := some (zcD r.Commits.length r.Heads)) (f := fun m i => zcz r _ m false i) (fun m i hi => by
    have hx : r.Commits[i]? = some r.Commits[i] := List.getElem?_eq_getElem hi
    have hc := h.cat hx
    have hco := h.coms
    have hpm := zan hc.par
    have hin : ∀ K : Bool → Int → Option Bool, zbr (i : Int) r.Commits[i] K (r.Commits[i].Parents.length + 1) false 0 = bif r.Commits[i].Parents.all (upB i) then K false (r.Commits[i].Parents.length : Int) else some false := fun K => by
      rw [zaK (α := Int) (xs := r.Commits[i].Parents) (p := upB i) (r0 := some false) (Z := K false (r.Commits[i].Parents.length : Int)) (f := fun m k => zbr (i : Int) r.Commits[i] K m false k) (fun m k p hp => by
        simp only [zbr, zaq hp, zae hp, cond_true, Option.bind_some, zag (zav hp) hpm, zeL, zeo (show i ≤ zam by unfold zam; omega)]
        rw [show (decide ((0 : Int) ≤ p) && decide (p ≤ (i : Int) - 1)) = upB i p from rfl]
        cases upB i p <;> rfl) (fun m => by simp only [zbr, zai, cond_false]) (by omega)]
    simp only [zcz, jn, zaq hx, zae hx, cond_true, Option.bind_some, zag hi hm, zas, hin, zdG hx, zeZ (zan hc.who), zdO hc.tree]
    unfold zki
    match hps : r.Commits[i].Parents with
    | [] => cases zaD r.Commits[i].Who <;> cases zap r.Commits[i].Tree <;> rfl
    | [p] =>
      simp only [List.length_cons, List.length_nil, List.all_cons, List.all_nil, zlY]
      cases upB i p <;> cases zaD r.Commits[i].Who <;> cases zap r.Commits[i].Tree <;> rfl
    | [p, q] =>
      simp only [List.length_cons, List.length_nil, List.all_cons, List.all_nil, zlY, gi, List.getElem?_cons_zero, List.getElem?_cons_succ, Int.toNat_zero, Int.toNat_one]
      cases upB i p <;> cases upB i q <;> cases hpq : p == q <;> cases zaD r.Commits[i].Who <;> cases zap r.Commits[i].Tree <;> simp [hpq] <;> rfl
    | p :: q :: s :: l =>
      rw [decide_eq_true (by simp only [List.length_cons]; omega), decide_eq_false (show ¬ (((p :: q :: s :: l).length : Nat) : Int) ≤ 2 by simp only [List.length_cons]; omega)]
      simp only [cond_true, Bool.false_and, Bool.and_false, cond_false]) (fun m => by
      simp only [zcz, zai, cond_false, jn, zj4 h h.heads h.head, Option.bind_some]) _ (by omega)]
  cases zgM (fun i => zki i (r.Commits.getD i noCommit)) 0 r.Commits.length <;> rfl
def atB (r : Repo) (name : Str) : Int := match r.Heads.find? (fun h => h.Name == name) with
  | some h => h.At
  | none => -1
theorem zc3 {r : Repo} (h : RpB r) (name : Str) : zea r name = some (atB r name) := by
  have hm := zan h.heads
  unfold zea atB
  simp only [jn, zas]
  rw [zcX (p := fun h : Head => h.Name == name) (xs := r.Heads) (r := fun h => some h.At) (Z := some (-1)) (f := fun m k => zdU r name _ m 0 k) (fun m i x hx => by
    simp only [zdU, zaq hx, zae hx, cond_true, Option.bind_some, zag (zav hx) hm]) (fun m => by simp only [zdU, zai, cond_false]) (by omega)]
  cases r.Heads.find? (fun h => h.Name == name) <;> rfl
theorem zlL {r : Repo} (h : RpB r) (name : Str) : zfA r name = some (atB r name) := by
  have hm := zan h.heads
  unfold zfA atB
  simp only [jn, zas]
  rw [zcX (p := fun h : Head => h.Name == name) (xs := r.Heads) (r := fun h => some h.At) (Z := some (-1)) (f := fun m k => zc0 r name _ m 0 k) (fun m i x hx => by
    simp only [zc0, zaq hx, zae hx, cond_true, Option.bind_some, zag (zav hx) hm]) (fun m => by simp only [zc0, zai, cond_false]) (by omega)]
  cases r.Heads.find? (fun h => h.Name == name) <;> rfl
def zje (r : Repo) (name : Str) : Int := bif zaa r then atB r name else -1
theorem zfR {r : Repo} (h : RpB r) (name : Str) : zex r name = some (zje r name) := by
  unfold zex zje
  rw [zbx h, Option.bind_some]
  cases zaa r with
  | false => rfl
  | true => rw [Bool.not_true, cond_false, zlL h]; rfl
theorem zhV {r : Repo} (h : RpB r) (a : Int) : zbh r a = some (upB r.Commits.length a) := by
  unfold zbh
  rw [zeo (zan h.coms), zeL, Option.bind_some]
  rfl
theorem zaz {n : Nat} {a : Int} : upB n a = true ↔ 0 ≤ a ∧ a ≤ (n : Int) - 1 := by
  unfold upB
  simp only [Bool.and_eq_true, decide_eq_true_eq]
theorem zcj {t : List File} (h : TB t) : zdr t = some t := by
  have hm := h.maxi
  have hl := h.1
  unfold zdr
  simp only [jn, zas]
  rw [zbX (xs := t) (p := fun _ => true) (g := fun f : File => f) (Z := fun acc => some acc) (f := fun m acc i => zco t _ m acc i) (fun m i x acc hx ha => by
    have hi := zav hx
    simp only [zco, zaq hx, zae hx, cond_true, Option.bind_some, zag hi hm, apN (h.at_ hx).len, ap1 (show acc.length ≤ 1048576 by omega)]) (fun m acc => by simp only [zco, zai, cond_false]) (by omega)]
  simp
theorem zdH {t : List File} (h : TB t) : zbm t = some t := by
  have hm := h.maxi
  have hl := h.1
  unfold zbm
  simp only [jn, zas]
  rw [zbX (xs := t) (p := fun _ => true) (g := fun f : File => f) (Z := fun acc => some acc) (f := fun m acc i => zbF t _ m acc i) (fun m i x acc hx ha => by
    have hi := zav hx
    simp only [zbF, zaq hx, zae hx, cond_true, Option.bind_some, zag hi hm, zbO (h.at_ hx).len, ap1 (show acc.length ≤ 1048576 by omega)]) (fun m acc => by simp only [zbF, zai, cond_false]) (by omega)]
  simp
theorem zgj {c : Commit} (h : CB c) : zcR c = some c := by
  unfold zcR
  rw [apN h.par, Option.bind_some, zcj h.tree, Option.bind_some]
theorem zcL {r : Repo} (h : RpB r) : zbl r = some r := by
  have hm := zan h.coms
  have hl := h.coms
  unfold zbl
  simp only [jn, zas, apN h.heads, Option.bind_some]
  rw [zbX (xs := r.Commits) (p := fun _ => true) (g := fun f : Commit => f) (Z := fun acc => some (Repo.mk acc r.Heads)) (f := fun m acc i => zcp r _ m i acc r.Heads) (fun m i x acc hx ha => by
    have hi := zav hx
    simp only [zcp, zaq hx, zae hx, cond_true, Option.bind_some, zag hi hm, zgj (h.cat hx), ap1 (show acc.length ≤ 1048576 by omega)]) (fun m acc => by simp only [zcp, zai, cond_false]) (by omega)]
  rw [show ((r.Commits.filter fun _ => true).map fun f : Commit => f) = r.Commits by simp]
def zed (n : Str) (a : Int) : Bool → List Head → List Head
  | put, [] => bif put then [] else [⟨n, a⟩]
  | put, h :: hs => (bif !put && !Op.bytesLess h.Name n then [⟨n, a⟩] else []) ++ ((bif h.Name != n then [h] else []) ++ zed n a (put || !Op.bytesLess h.Name n) hs)
theorem zhe (n : Str) (a : Int) : ∀ (hs : List Head) (put : Bool), (zed n a put hs).length + (bif put then 1 else 0) ≤ hs.length + 1
  | [], put => by cases put <;> simp [zed]
  | h :: hs, put => by
    have ih := zhe n a hs (put || !Op.bytesLess h.Name n)
    unfold zed
    cases put <;> cases hb : Op.bytesLess h.Name n <;> cases hn : (h.Name != n) <;> simp [hb] at ih ⊢ <;> omega
theorem putH_mem (n : Str) (a : Int) : ∀ (hs : List Head) (put : Bool) (x : Head), x ∈ zed n a put hs → x ∈ hs ∨ x = ⟨n, a⟩
  | [], put, x, h => by cases put <;> simp [zed] at h; exact .inr h
  | h :: hs, put, x, hx => by
    unfold zed at hx
    rcases List.mem_append.1 hx with h1 | h1
    · cases hc : (!put && !Op.bytesLess h.Name n) with
      | true => rw [hc] at h1; simp at h1; exact .inr h1
      | false => rw [hc] at h1; simp at h1
    · rcases List.mem_append.1 h1 with h2 | h2
      · cases hc : (h.Name != n) with
        | true => rw [hc] at h2; simp at h2; exact .inl (by rw [h2]; simp)
        | false => rw [hc] at h2; simp at h2
      · rcases putH_mem n a hs _ x h2 with h3 | h3
        · exact .inl (List.mem_cons_of_mem _ h3)
        · exact .inr h3
theorem zig {r : Repo} (h : RpB r) (hs : r.Heads.length ≤ 100000) (n : Str) (a : Int) (cs : List Commit) : ∀ (k i m : Nat) (put : Bool) (out : List Head), i + k = r.Heads.length → k < m → out.length ≤ 2 * i →
    zcq r n a (fun y14 _ y16 y19 => bif (!y14) then ((apM y19 [Vm.Head.mk n a]).bind fun q160 => some (Vm.Repo.mk y16 q160)) else some (Vm.Repo.mk y16 y19)) m put (i : Int) cs out = some ⟨cs, out ++ zed n a put (r.Heads.drop i)⟩
  | k, i, 0, put, out, _, hm, _ => by omega
  | 0, i, m + 1, put, out, hi, _, ho => by
    obtain rfl : i = r.Heads.length := by omega
    simp only [zcq, zai, cond_false, List.drop_length]
    cases put
    · simp only [Bool.not_false, cond_true, ap1 (show out.length ≤ 1048576 by omega), Option.bind_some, zed, cond_false]
    · simp [zed]
  | k + 1, i, m + 1, put, out, hi, hm, ho => by
    have hlt : i < r.Heads.length := by omega
    have hx : r.Heads[i]? = some r.Heads[i] := List.getElem?_eq_getElem hlt
    have hd : r.Heads.drop i = r.Heads[i] :: r.Heads.drop (i + 1) := List.drop_eq_getElem_cons hlt
    have hw := zag hlt (zan h.heads)
    have ih := fun put out ho => zig h hs n a cs k (i + 1) m put out (by omega) (by omega) ho
    simp only [zcq, jn, zaq hx, zae hx, cond_true, Option.bind_some, hw]
    rw [hd]
    unfold zed
    have e1 := ap1 (x := Vm.Head.mk n a) (show out.length ≤ 1048576 by omega)
    have e2 := ap1 (x := r.Heads[i]) (show out.length ≤ 1048576 by omega)
    have e3 : apM (out ++ [Vm.Head.mk n a]) [r.Heads[i]] = some (out ++ ([Vm.Head.mk n a] ++ [r.Heads[i]])) := by rw [ap1 (show (out ++ [Vm.Head.mk n a]).length ≤ 1048576 by simp; omega), List.append_assoc]
    have l1 : (out ++ [r.Heads[i]]).length ≤ 2 * (i + 1) := by simp; omega
    have l2 : (out ++ [Vm.Head.mk n a]).length ≤ 2 * (i + 1) := by simp; omega
    have l3 : (out ++ ([Vm.Head.mk n a] ++ [r.Heads[i]])).length ≤ 2 * (i + 1) := by simp; omega
    have l0 : out.length ≤ 2 * (i + 1) := by omega
    cases put <;> cases Op.bytesLess r.Heads[i].Name n <;> cases (r.Heads[i].Name != n) <;>
      simp only [Bool.not_true, Bool.not_false, cond_true, cond_false, e1, e2, e3, Option.bind_some, Bool.and_true, Bool.and_false, Bool.or_true, Bool.or_false, Bool.true_and, Bool.false_and, Bool.true_or, Bool.false_or, ih _ _ l0, ih _ _ l1, ih _ _ l2, ih _ _ l3, List.append_assoc, List.nil_append]
def zb7 (r : Repo) (n : Str) (a : Int) : Repo := ⟨r.Commits, zed n a false r.Heads⟩
theorem zgk {r : Repo} (h : RpB r) (hs : r.Heads.length ≤ 100000) (n : Str) (a : Int) : zfm r n a = some (zb7 r n a) := by
  unfold zfm zb7
  simp only [jn, zas]
  have := zig h hs n a r.Commits r.Heads.length 0 (r.Heads.length + 1) false [] (by omega) (by omega) (by simp)
  simpa using this
theorem RpB.headR {r : Repo} (h : RpB r) (hs : r.Heads.length ≤ 100000) {n : Str} (hn : n.length ≤ 1048576) (a : Int) : RpB (zb7 r n a) :=
  ⟨h.coms, h.com, by have := zhe n a r.Heads false; simp at this; show (zed n a false r.Heads).length ≤ _; omega, fun x hx => by
    rcases putH_mem n a r.Heads false x hx with h1 | h1
    · exact h.head x h1
    · rw [h1]; exact hn⟩
def zb9 (r : Repo) (n : Str) (c : Commit) : Repo := ⟨r.Commits ++ [c], zed n r.Commits.length false r.Heads⟩
theorem RpB.push {r : Repo} (h : RpB r) {c : Commit} (hc : CB c) (hl : r.Commits.length ≤ 100000) : RpB ⟨r.Commits ++ [c], r.Heads⟩ :=
  ⟨by simp; omega, fun x hx => by
    rcases List.mem_append.1 hx with h1 | h1
    · exact h.com x h1
    · rw [List.mem_singleton] at h1; rw [h1]; exact hc, h.heads, h.head⟩
theorem RpB.addR {r : Repo} (h : RpB r) (hl : r.Commits.length ≤ 100000) (hs : r.Heads.length ≤ 100000) {n : Str} (hn : n.length ≤ 1048576) {c : Commit} (hc : CB c) : RpB (zb9 r n c) :=
  (h.push hc hl).headR hs hn _
theorem zjz {r : Repo} (h : RpB r) (hl : r.Commits.length ≤ 100000) (hs : r.Heads.length ≤ 100000) (n : Str) {c : Commit} (hc : CB c) : zdy r n c = some (zb9 r n c) := by
  unfold zdy
  rw [apN h.coms, Option.bind_some, ap1 h.coms, Option.bind_some, zgk (h.push hc hl) hs, Option.bind_some]
  rfl
theorem zad {r : Repo} (h : zaa r = true) : r.Commits.length ≤ 16 ∧ r.Heads.length ≤ 5 := by
  unfold zaa zcD at h
  simp only [Bool.and_eq_true, decide_eq_true_eq] at h
  omega
def ze0 (r : Repo) (n who : Str) (t : List File) : Commit := ⟨bif decide (0 ≤ atB r n) then [atB r n] else [], who, t⟩
def zbt : Repo := ⟨[], []⟩
def zdI (r : Repo) (n who : Str) (t : List File) : Repo × Bool := bif zaa r then (bif zaa (zb9 r n (ze0 r n who t)) then (zb9 r n (ze0 r n who t), true) else (r, false)) else (zbt, false)
theorem CB.next {r : Repo} {n who : Str} {t : List File} (hw : who.length ≤ 1048576) (ht : TB t) : CB (ze0 r n who t) :=
  ⟨by unfold ze0; cases decide (0 ≤ atB r n) <;> simp, hw, ht⟩
theorem zgW {r : Repo} (h : RpB r) {n who : Str} {t : List File} (hn : n.length ≤ 1048576) (hw : who.length ≤ 1048576) (ht : TB t) : zdY r n who t = some (zdI r n who t) := by
  unfold zdY zdI
  rw [zcI h, Option.bind_some]
  cases hr : zaa r with
  | false => rfl
  | true =>
    obtain ⟨s1, s2⟩ := zad hr
    have hc : CB (ze0 r n who t) := CB.next hw ht
    have ha := zjz h (by omega) (by omega) n hc
    have hb := h.addR (by omega) (by omega) hn hc
    have hfin : (zbl r).bind (fun z57 => (zdy ⟨z57.Commits, z57.Heads⟩ n (ze0 r n who t)).bind fun z66 => (zcY z66).bind fun z204 => bif (!z204) then ((zbl r).bind fun z219 => some (Vm.Repo.mk z219.Commits z219.Heads, false)) else (some (z66, true))) = some (bif zaa (zb9 r n (ze0 r n who t)) then (zb9 r n (ze0 r n who t), true) else (r, false)) := by
      rw [zcL h, Option.bind_some, show (⟨r.Commits, r.Heads⟩ : Repo) = r from rfl, ha, Option.bind_some, zcI hb, Option.bind_some]
      cases zaa (zb9 r n (ze0 r n who t)) <;> rfl
    rw [Bool.not_true, cond_false, cond_true, zcj ht, Option.bind_some]
    simp only [jn, zc3 h, Option.bind_some]
    unfold ze0 at hfin ⊢
    cases hd : decide (0 ≤ atB r n) <;> rw [hd] at hfin <;> exact hfin
def ze1 (r : Repo) (n : Str) (a : Int) : Repo × Bool := bif zaa r then (bif decide (0 ≤ atB r n) || !zaa (zb7 r n a) then (r, false) else (zb7 r n a, true)) else (zbt, false)
theorem zgX {r : Repo} (h : RpB r) {n : Str} (hn : n.length ≤ 1048576) (a : Int) : zbZ r n a = some (ze1 r n a) := by
  unfold zbZ ze1
  rw [zcI h, Option.bind_some]
  cases hr : zaa r with
  | false => rfl
  | true =>
    obtain ⟨s1, s2⟩ := zad hr
    rw [Bool.not_true, cond_false, cond_true, zcL h, Option.bind_some, show (⟨r.Commits, r.Heads⟩ : Repo) = r from rfl, zgk h (by omega), Option.bind_some]
    simp only [jn, zc3 h, Option.bind_some, zcI (h.headR (by omega) hn a)]
    cases decide (0 ≤ atB r n) <;> cases zaa (zb7 r n a) <;> rfl
def zgH (g : File) : Bool → List File → List File
  | put, [] => bif put then [] else [g]
  | put, f :: fs => (bif !put && !Op.bytesLess f.Path g.Path then [g] else []) ++ ((bif f.Path != g.Path then [f] else []) ++ zgH g (put || !Op.bytesLess f.Path g.Path) fs)
theorem zhf (g : File) : ∀ (hs : List File) (put : Bool), (zgH g put hs).length + (bif put then 1 else 0) ≤ hs.length + 1
  | [], put => by cases put <;> simp [zgH]
  | h :: hs, put => by
    have ih := zhf g hs (put || !Op.bytesLess h.Path g.Path)
    unfold zgH
    cases put <;> cases hb : Op.bytesLess h.Path g.Path <;> cases hn : (h.Path != g.Path) <;> simp [hb] at ih ⊢ <;> omega
theorem putF_mem (g : File) : ∀ (hs : List File) (put : Bool) (x : File), x ∈ zgH g put hs → x ∈ hs ∨ x = g
  | [], put, x, h => by cases put <;> simp [zgH] at h; exact .inr h
  | h :: hs, put, x, hx => by
    unfold zgH at hx
    rcases List.mem_append.1 hx with h1 | h1
    · cases hc : (!put && !Op.bytesLess h.Path g.Path) with
      | true => rw [hc] at h1; simp at h1; exact .inr h1
      | false => rw [hc] at h1; simp at h1
    · rcases List.mem_append.1 h1 with h2 | h2
      · cases hc : (h.Path != g.Path) with
        | true => rw [hc] at h2; simp at h2; exact .inl (by rw [h2]; simp)
        | false => rw [hc] at h2; simp at h2
      · rcases putF_mem g hs _ x h2 with h3 | h3
        · exact .inl (List.mem_cons_of_mem _ h3)
        · exact .inr h3
theorem TB.putF {t : List File} (h : TB t) (hs : t.length ≤ 100000) {g : File} (hg : FB g) : TB (zgH g false t) :=
  ⟨by have := zhf g t false; simp at this; omega, fun x hx => by
    rcases putF_mem g t false x hx with h1 | h1
    · exact h.2 x h1
    · rw [h1]; exact hg⟩
theorem zjA {t : List File} (h : TB t) (hs : t.length ≤ 100000) {g : File} (hg : FB g) {K : List File → Bool → Int → Option (List File)} (hK : ∀ out put j, out.length ≤ 2 * t.length → K out put j = some (bif put then out else out ++ [g])) : ∀ (k i m : Nat) (put : Bool) (out : List File), i + k = t.length → k < m → out.length ≤ 2 * i →
    zc4 t g K m out put (i : Int) = some (out ++ zgH g put (t.drop i))
  | k, i, 0, put, out, _, hm, _ => by omega
  | 0, i, m + 1, put, out, hi, _, ho => by
    obtain rfl : i = t.length := by omega
    simp only [zc4, zai, cond_false, List.drop_length, hK out put _ ho]
    cases put <;> simp [zgH]
  | k + 1, i, m + 1, put, out, hi, hm, ho => by
    have hlt : i < t.length := by omega
    have hx : t[i]? = some t[i] := List.getElem?_eq_getElem hlt
    have hd : t.drop i = t[i] :: t.drop (i + 1) := List.drop_eq_getElem_cons hlt
    have hw := zag hlt h.maxi
    have ih := fun put out ho => zjA h hs hg hK k (i + 1) m put out (by omega) (by omega) ho
    simp only [zc4, jn, zaq hx, zae hx, cond_true, Option.bind_some, hw, apN hg.len]
    rw [hd]
    unfold zgH
    have e1 := ap1 (x := g) (show out.length ≤ 1048576 by omega)
    have e2 := ap1 (x := t[i]) (show out.length ≤ 1048576 by omega)
    have e3 : apM (out ++ [g]) [t[i]] = some (out ++ ([g] ++ [t[i]])) := by rw [ap1 (show (out ++ [g]).length ≤ 1048576 by simp; omega), List.append_assoc]
    have l1 : (out ++ [t[i]]).length ≤ 2 * (i + 1) := by simp; omega
    have l2 : (out ++ [g]).length ≤ 2 * (i + 1) := by simp; omega
    have l3 : (out ++ ([g] ++ [t[i]])).length ≤ 2 * (i + 1) := by simp; omega
    have l0 : out.length ≤ 2 * (i + 1) := by omega
    have eg : Vm.File.mk g.Path g.Text = g := rfl
    cases put <;> cases Op.bytesLess t[i].Path g.Path <;> cases (t[i].Path != g.Path) <;>
      simp only [Bool.not_true, Bool.not_false, cond_true, cond_false, eg, e1, e2, e3, Option.bind_some, Bool.and_true, Bool.and_false, Bool.or_true, Bool.or_false, Bool.true_and, Bool.false_and, Bool.true_or, Bool.false_or, ih _ _ l0, ih _ _ l1, ih _ _ l2, ih _ _ l3, List.append_assoc, List.nil_append]
theorem zjB {t : List File} (h : TB t) (hs : t.length ≤ 100000) {g : File} (hg : FB g) : zeX t g = some (zgH g false t) := by
  unfold zeX
  simp only [jn, zas]
  have := zjA h hs hg (K := fun y6 y9 _ => bif (!y9) then ((apM ([] : List Str) g.Text).bind fun q126 => (apM y6 [Vm.File.mk g.Path q126]).bind fun q144 => some q144) else some y6) (fun out put j ho => by
    cases put
    · simp only [Bool.not_false, cond_true, cond_false, apN hg.len, ap1 (show out.length ≤ 1048576 by omega), Option.bind_some]
    · rfl) t.length 0 (t.length + 1) false [] (by omega) (by omega) (by simp)
  simpa using this
theorem zal {t : List File} (h : zap t = true) : t.length ≤ 8 := by
  unfold zap at h
  simp only [Bool.and_eq_true, decide_eq_true_eq] at h
  omega
def zm1 (t : List File) (g : File) : List File × Bool := bif zap t then (bif zap (zgH g false t) then (zgH g false t, true) else (t, false)) else ([], false)
theorem zi4 {t : List File} (h : TB t) {g : File} (hg : FB g) : zdW t g = some (zm1 t g) := by
  unfold zdW zm1
  rw [zer h, Option.bind_some]
  cases ht : zap t with
  | false => rfl
  | true =>
    have hs := zal ht
    rw [Bool.not_true, cond_false, cond_true, zcj h, Option.bind_some, zjB h (by omega) hg, Option.bind_some, zer (h.putF (by omega) hg), Option.bind_some]
    cases zap (zgH g false t) <;> rfl
def zlZ (p : Str) (f : File) : Bool := f.Path != p && !za2 p f.Path
def zbU (p : Str) (t : List File) : List File := t.filter (zlZ p)
theorem zih {t : List File} (h : TB t) (p : Str) : zfM t p = some (zbU p t) := by
  have hm := h.maxi
  have hl := h.1
  unfold zfM zbU
  simp only [jn, zas]
  rw [zbX (xs := t) (p := zlZ p) (g := fun f : File => f) (Z := fun acc => some acc) (f := fun m acc i => zcr t p _ m acc i) (fun m i x acc hx ha => by
    have hi := zav hx
    simp only [zcr, jn, zaq hx, zae hx, cond_true, Option.bind_some, zag hi hm, ap1 (show acc.length ≤ 1048576 by omega), zi1 (h.at_ hx).path]
    unfold zlZ
    cases (x.Path != p) <;> cases za2 p x.Path <;> rfl) (fun m acc => by simp only [zcr, zai, cond_false]) (by omega)]
  simp
theorem TB.dropF {t : List File} (h : TB t) (p : Str) : TB (zbU p t) := ⟨Nat.le_trans (List.length_filter_le _ _) h.1, fun f hf => h.2 f ((List.mem_filter.1 hf).1)⟩
def zno (t : List File) (p : Str) : List File × Bool := bif zap t then (zbU p t, decide (((zbU p t).length : Int) < (t.length : Int))) else ([], false)
theorem zii {t : List File} (h : TB t) (p : Str) : zc5 t p = some (zno t p) := by
  unfold zc5 zno
  rw [zer h, Option.bind_some]
  cases zap t with
  | false => rfl
  | true => rw [Bool.not_true, cond_false, cond_true, zcj h, Option.bind_some, zih h, Option.bind_some]
theorem zgl {r : Repo} (h : zaa r = true) {i : Nat} (hi : i < r.Commits.length) : zki i (r.Commits.getD i noCommit) = true := by
  unfold zaa zkq at h
  simp only [Bool.and_eq_true] at h
  exact zaX.1 h.2.1 i (Nat.zero_le _) (by omega)
def zaf (r : Repo) (i : Nat) : List Int := (r.Commits.getD i noCommit).Parents
theorem za0 {r : Repo} (h : zaa r = true) {i : Nat} (hi : i < r.Commits.length) : (zaf r i).length ≤ 2 ∧ ∀ p ∈ zaf r i, 0 ≤ p ∧ p ≤ (i : Int) - 1 := by
  have := zgl h hi
  unfold zki at this
  simp only [Bool.and_eq_true, decide_eq_true_eq, List.all_eq_true] at this
  obtain ⟨h1, h2, _⟩ := this
  refine ⟨by unfold zaf; omega, fun p hp => ?_⟩
  have := h1 p hp
  unfold upB at this
  simp only [Bool.and_eq_true, decide_eq_true_eq] at this
  exact this
theorem zij {r : Repo} {i : Nat} (hi : i < r.Commits.length) : gi r.Commits (i : Int) = some (r.Commits.getD i noCommit) := by
  rw [zdG (List.getElem?_eq_getElem hi)]
  exact zae (List.getElem?_eq_getElem hi)
theorem zgm {r : Repo} (h : zaa r = true) {x : Head} (hx : x ∈ r.Heads) : 0 ≤ x.At ∧ x.At ≤ (r.Commits.length : Int) - 1 ∧ zaD x.Name = true := by
  obtain ⟨i, hi⟩ := List.mem_iff_getElem?.1 hx
  unfold zaa zcD at h
  simp only [Bool.and_eq_true] at h
  have := zaX.1 h.2.2.1 i (Nat.zero_le _) (by have := zav hi; omega)
  unfold zfl upB at this
  rw [za8 hi] at this
  simp only [Bool.and_eq_true, decide_eq_true_eq] at this
  exact ⟨this.2.1.1, this.2.1.2, this.1⟩
theorem at_range {r : Repo} (h : zaa r = true) (n : Str) : atB r n = -1 ∨ (0 ≤ atB r n ∧ atB r n ≤ (r.Commits.length : Int) - 1) := by
  unfold atB
  cases hf : r.Heads.find? (fun h => h.Name == n) with
  | none => exact .inl rfl
  | some x =>
    have := zgm h (List.mem_of_find?_eq_some hf)
    exact .inr ⟨this.1, this.2.1⟩
def zk6 (mk : List Bool) (p : Int) : List Bool := mk.set p.toNat true
theorem zh1 (mk : List Bool) (p : Int) : (zk6 mk p).length = mk.length := by simp [zk6]
theorem zik : ∀ (ps : List Int) (mk : List Bool), (ps.foldl zk6 mk).length = mk.length
  | [], mk => rfl
  | p :: ps, mk => by rw [List.foldl_cons, zik ps, zh1]
def zke (r : Repo) (i : Nat) (mk : List Bool) : List Bool := bif mk.getD i false then (zaf r i).foldl zk6 mk else mk
theorem zgO (r : Repo) (i : Nat) (mk : List Bool) : (zke r i mk).length = mk.length := by
  unfold zke
  cases mk.getD i false
  · rfl
  · exact zik _ _
def zfh (r : Repo) : Nat → List Bool → List Bool
  | 0, mk => mk
  | i + 1, mk => zfh r i (zke r i mk)
theorem zhg (r : Repo) : ∀ (i : Nat) (mk : List Bool), (zfh r i mk).length = mk.length
  | 0, mk => rfl
  | i + 1, mk => by unfold zfh; rw [zhg r i, zgO]
def za1 (r : Repo) (a : Nat) : List Bool := zfh r (a + 1) ((List.replicate r.Commits.length false).set a true)
theorem zbR (r : Repo) (a : Nat) : (za1 r a).length = r.Commits.length := by unfold za1; rw [zhg]; simp
def zld (mk : List Bool) : List Int := ((List.range mk.length).filter fun i => mk.getD i false).map Int.ofNat
def za9 (r : Repo) (a : Int) : List Int := zld (za1 r a.toNat)
theorem zd4 {mk : List Bool} {i : Nat} (h : i < mk.length) : gi mk (i : Int) = some (mk.getD i false) := by
  have hx : mk[i]? = some mk[i] := List.getElem?_eq_getElem h
  rw [zae hx]
  simp [List.getD, hx]
theorem zkQ {mk : List Bool} {p : Int} {i : Nat} (h : mk.getD i false = true) : (zk6 mk p).getD i false = true := by
  unfold zk6
  by_cases e : p.toNat = i
  · subst e
    have hl : p.toNat < mk.length := by
      rcases Nat.lt_or_ge p.toNat mk.length with h1 | h1
      · exact h1
      · rw [List.getD, List.getElem?_eq_none (by omega)] at h; simp at h
    simp [List.getD, hl]
  · simp only [List.getD, List.getElem?_set_ne e] at h ⊢
    exact h
theorem zl4 {r : Repo} (h : zaa r = true) {i : Nat} (hi : i < r.Commits.length) {F : List Bool → Option (List Int)} : ∀ (j k m : Nat) (mk : List Bool), k + j = (zaf r i).length → j < m → mk.length = r.Commits.length →
    zc7 r (i : Int) (fun _ y27 => F y27) m (k : Int) mk = F (bif mk.getD i false then ((zaf r i).drop k).foldl zk6 mk else mk)
  | j, k, 0, mk, _, hm, _ => by omega
  | 0, k, m + 1, mk, hk, _, hl => by
    obtain rfl : k = (zaf r i).length := by omega
    have e : (r.Commits.getD i noCommit).Parents = zaf r i := rfl
    simp only [zc7, jn, zij hi, Option.bind_some, e, zai, cond_false, List.drop_length, List.foldl_nil]
    cases mk.getD i false <;> rfl
  | j + 1, k, m + 1, mk, hk, hm, hl => by
    have hlt : k < (zaf r i).length := by omega
    have hx : (zaf r i)[k]? = some (zaf r i)[k] := List.getElem?_eq_getElem hlt
    obtain ⟨hs, hp⟩ := za0 h hi
    obtain ⟨p0, p1⟩ := hp _ (List.getElem_mem hlt)
    have e : (r.Commits.getD i noCommit).Parents = zaf r i := rfl
    have hn : (((zaf r i)[k].toNat : Nat) : Int) = (zaf r i)[k] := by omega
    have hg : gi mk (zaf r i)[k] = some (mk.getD (zaf r i)[k].toNat false) := by
      rw [← hn]
      exact zd4 (by omega)
    have hsi : siM mk (zaf r i)[k] true = some (zk6 mk (zaf r i)[k]) := by
      have := zcQ (xs := mk) (i := (zaf r i)[k].toNat) (by omega) true
      rw [hn] at this
      exact this
    simp only [zc7, jn, zij hi, Option.bind_some, e, zaq hx, cond_true, zd4 (show i < mk.length by omega), zae hx, hg, hsi]
    cases hb : mk.getD i false with
    | false => rfl
    | true =>
      rw [cond_true, cond_true, zag hlt (by unfold zam; omega), zl4 h hi j (k + 1) m _ (by omega) (by omega) (by rw [zh1]; exact hl), zkQ hb, cond_true, List.drop_eq_getElem_cons hlt, List.foldl_cons]
theorem zl5 {r : Repo} (h : zaa r = true) {F : List Bool → Option (List Int)} : ∀ (i m : Nat) (mk : List Bool), i ≤ r.Commits.length → i < m → mk.length = r.Commits.length →
    zbM r (fun _ y => F y) m ((i : Int) - 1) mk = F (zfh r i mk)
  | i, 0, mk, _, hm, _ => by omega
  | 0, m + 1, mk, _, _, _ => by
    simp only [zbM]
    rw [decide_eq_false (by omega)]
    rfl
  | i + 1, m + 1, mk, hi, hm, hl => by
    have hs := (zad h).1
    have e : (((i + 1 : Nat) : Int)) - 1 = (i : Int) := by omega
    simp only [zbM, jn, e]
    rw [decide_eq_true (by omega), cond_true]
    have hp := (za0 h (show i < r.Commits.length by omega)).1
    have h2 := zl4 h (show i < r.Commits.length by omega) (F := fun y27 => zbM r (fun _ y => F y) m (w64 ((i : Int) - 1)) y27) (zaf r i).length 0 4 mk (by omega) (by omega) hl
    refine (h2).trans ?_
    rw [zeo (show i ≤ zam by unfold zam; omega)]
    refine (zl5 h i m _ (by omega) (by omega) ?_).trans rfl
    have := zgO r i mk
    unfold zke at this
    rw [List.drop_zero, this]
    exact hl
theorem zkR {mk : List Bool} (hl : mk.length ≤ 1000) : ∀ (k i m : Nat) (out : List Int), i + k = mk.length → k < m → out.length ≤ i →
    zbL mk (fun y69 _ => some y69) m out (i : Int) = some (out ++ ((List.range' i k).filter fun i => mk.getD i false).map Int.ofNat)
  | k, i, 0, out, _, hm, _ => by omega
  | 0, i, m + 1, out, hi, _, _ => by
    obtain rfl : i = mk.length := by omega
    simp only [zbL, zai, cond_false]
    simp
  | k + 1, i, m + 1, out, hi, hm, ho => by
    have hlt : i < mk.length := by omega
    have hx : mk[i]? = some mk[i] := List.getElem?_eq_getElem hlt
    simp only [zbL, jn, zaq hx, cond_true, zd4 hlt, Option.bind_some, zag hlt (show mk.length ≤ zam by unfold zam; omega), ap1 (x := (i : Int)) (show out.length ≤ 1048576 by omega)]
    rw [List.range'_succ, List.filter_cons]
    cases hb : mk.getD i false with
    | true =>
      rw [cond_true, zkR hl k (i + 1) m _ (by omega) (by omega) (by simp; omega), if_pos rfl]
      simp
    | false =>
      rw [cond_false, zkR hl k (i + 1) m _ (by omega) (by omega) (by omega), if_neg (by simp)]
theorem zeO {r : Repo} (h : zaa r = true) {a : Int} (h0 : 0 ≤ a) (h1 : a ≤ (r.Commits.length : Int) - 1) : zfF r a = some (za9 r a) := by
  have hs := (zad h).1
  obtain ⟨n, rfl⟩ := Int.eq_ofNat_of_zero_le h0
  have hn : n < r.Commits.length := by omega
  have hl : (List.replicate r.Commits.length false).length = r.Commits.length := by simp
  unfold zfF
  rw [zjD (by simp [lim]; omega), Option.bind_some, zd4 (by rw [hl]; exact hn), Option.bind_some, zcQ (by rw [hl]; exact hn), Option.bind_some]
  simp only [jn, zas]
  have e := zl5 h (F := fun y18 => zbL y18 (fun y69 _ => some y69) (y18.length + 1) ([] : List Int) 0) (n + 1) (((n : Int) + 1 - 0).toNat + 1) ((List.replicate r.Commits.length false).set n true) (by omega) (by omega) (by simp)
  rw [show (((n + 1 : Nat) : Int)) - 1 = (n : Int) by omega] at e
  refine e.trans ?_
  have hml := zbR r n
  unfold za1 at hml
  have e3 := zkR (mk := zfh r (n + 1) ((List.replicate r.Commits.length false).set n true)) (by omega) r.Commits.length 0 (r.Commits.length + 1) [] (by omega) (by omega) (by simp)
  rw [hml]
  refine e3.trans ?_
  unfold za9 zld za1
  rw [Int.toNat_natCast, hml, List.range_eq_range']
  rfl
theorem zbI {r : Repo} {a x : Int} (h : x ∈ za9 r a) : 0 ≤ x ∧ x ≤ (r.Commits.length : Int) - 1 := by
  unfold za9 zld at h
  rw [zbR] at h
  obtain ⟨i, hi, rfl⟩ := List.mem_map.1 h
  have := List.mem_range.1 (List.mem_filter.1 hi).1
  constructor
  · exact Int.natCast_nonneg i
  · show (i : Int) ≤ _; omega
theorem zcM (r : Repo) (a : Int) : (za9 r a).length ≤ r.Commits.length := by
  unfold za9 zld
  rw [zbR, List.length_map]
  exact Nat.le_trans (List.length_filter_le _ _) (by simp)
def zfW (l : List Int) (n : Int) : Bool := l.any fun x => x == n
theorem zfX {l : List Int} (hl : l.length ≤ 1000000) (n : Int) : zfU l n = some (zfW l n) := by
  unfold zfU zfW
  simp only [jn, zas]
  rw [zcX (p := fun x : Int => x == n) (xs := l) (r := fun _ => some true) (Z := some false) (f := fun m k => zc8 l n _ m false k) (fun m i x hx => by
    simp only [zc8, zaq hx, zae hx, cond_true, Option.bind_some, zag (zav hx) (show l.length ≤ zam by unfold zam; omega)]) (fun m => by simp only [zc8, zai, cond_false]) (by omega)]
  cases hf : l.find? (fun x => x == n) with
  | some x =>
    have : l.any (fun x => x == n) = true := List.any_eq_true.2 ⟨x, List.mem_of_find?_eq_some hf, by simpa using List.find?_some hf⟩
    rw [this]
  | none =>
    have : l.any (fun x => x == n) = false := by
      rw [List.any_eq_false]
      intro x hx
      have := List.find?_eq_none.1 hf x hx
      simpa using this
    rw [this]
def zk4 (r : Repo) (l : List Int) (i : Nat) : Bool := zgM (fun k => ((k : Int) == (i : Int)) || !zfW (za9 r (l.getD k 0)) (l.getD i 0)) 0 l.length
def zkr (p : Nat → Bool) (l : List Int) : List Int := ((List.range l.length).filter p).map fun i => l.getD i 0
def zdm (r : Repo) (a b : Int) : List Int := (za9 r a).filter (zfW (za9 r b))
def zaC (r : Repo) (a b : Int) : List Int := zkr (zk4 r (zdm r a b)) (zdm r a b)
theorem zhq {l : List Int} {i : Nat} (h : i < l.length) : gi l (i : Int) = some (l.getD i 0) := by
  rw [zcg (List.getElem?_eq_getElem h)]
  exact zae (List.getElem?_eq_getElem h)
theorem zjC {r : Repo} (h : zaa r = true) {l : List Int} (hl : l.length ≤ 1000) (hm : ∀ x ∈ l, 0 ≤ x ∧ x ≤ (r.Commits.length : Int) - 1) {i : Nat} (hi : i < l.length) {F : Bool → Option (List Int)} : ∀ (n k m : Nat) (b : Bool), k + n = l.length → n < m →
    zby r l (i : Int) (fun y _ => F y) m b (k : Int) = F (b && zgM (fun k => ((k : Int) == (i : Int)) || !zfW (za9 r (l.getD k 0)) (l.getD i 0)) k n)
  | n, k, 0, b, _, hm' => by omega
  | 0, k, m + 1, b, hk, _ => by
    obtain rfl : k = l.length := by omega
    simp only [zby, zai, cond_false, zgM, Bool.and_true]
  | n + 1, k, m + 1, b, hk, hm' => by
    have hlt : k < l.length := by omega
    have hx : l[k]? = some l[k] := List.getElem?_eq_getElem hlt
    have hs := (zad h).1
    obtain ⟨q0, q1⟩ := hm _ (List.getElem_mem hlt)
    have hal := zcM r l[k]
    have ih := fun b => zjC h hl hm hi (F := F) n (k + 1) m b (by omega) (by omega)
    simp only [zby, zaq hx, cond_true, zag hlt (show l.length ≤ zam by unfold zam; omega), zae hx, zhq hi, Option.bind_some, zeO h q0 q1, zfX (show (za9 r l[k]).length ≤ 1000000 by omega), ih, zgM, zcg hx]
    cases b <;> cases ((k : Int) == (i : Int)) <;> simp
theorem zhH {r : Repo} (h : zaa r = true) {l : List Int} (hl : l.length ≤ 1000) (hm : ∀ x ∈ l, 0 ≤ x ∧ x ≤ (r.Commits.length : Int) - 1) : ∀ (k i m : Nat) (out : List Int), i + k = l.length → k < m → out.length ≤ i →
    zaF r l (fun y _ => some y) m out (i : Int) = some (out ++ ((List.range' i k).filter (zk4 r l)).map fun i => l.getD i 0)
  | k, i, 0, out, _, hm', _ => by omega
  | 0, i, m + 1, out, hi, _, _ => by
    obtain rfl : i = l.length := by omega
    simp only [zaF, zai, cond_false]
    simp
  | k + 1, i, m + 1, out, hi, hm', ho => by
    have hlt : i < l.length := by omega
    have hx : l[i]? = some l[i] := List.getElem?_eq_getElem hlt
    have h3 := zjC h hl hm hlt (F := fun y104 => bif y104 then ((gi l (i : Int)).bind fun u151 => (apM out [u151]).bind fun q160 => zaF r l (fun y _ => some y) m q160 (w64 ((i : Int) + 1))) else zaF r l (fun y _ => some y) m out (w64 ((i : Int) + 1))) l.length 0 (l.length + 1) true (by omega) (by omega)
    simp only [zaF, jn, zaq hx, cond_true, zas]
    refine h3.trans ?_
    rw [Bool.true_and, List.range'_succ, List.filter_cons, zag hlt (show l.length ≤ zam by unfold zam; omega)]
    show (bif zk4 r l i then _ else _) = _
    cases hb : zk4 r l i with
    | true =>
      rw [cond_true, zae hx, Option.bind_some, ap1 (show out.length ≤ 1048576 by omega), Option.bind_some, zhH h hl hm k (i + 1) m _ (by omega) (by omega) (by simp; omega), if_pos rfl]
      simp [hx]
    | false =>
      rw [cond_false, zhH h hl hm k (i + 1) m _ (by omega) (by omega) (by omega), if_neg (by simp)]
theorem zj5 {r : Repo} (h : zaa r = true) {a b : Int} (ha : 0 ≤ a) (ha' : a ≤ (r.Commits.length : Int) - 1) (hb : 0 ≤ b) (hb' : b ≤ (r.Commits.length : Int) - 1) : zft r a b = some (zaC r a b) := by
  have hs := (zad h).1
  have la := zcM r a
  have lb := zcM r b
  unfold zft
  rw [zeO h ha ha', Option.bind_some, zeO h hb hb', Option.bind_some]
  simp only [jn, zas]
  have hl : (zdm r a b).length ≤ 1000 := Nat.le_trans (List.length_filter_le _ _) (by omega)
  have hm : ∀ x ∈ zdm r a b, 0 ≤ x ∧ x ≤ (r.Commits.length : Int) - 1 := fun x hx => zbI (List.mem_filter.1 hx).1
  rw [zbX (xs := za9 r a) (p := zfW (za9 r b)) (g := fun x : Int => x) (Z := fun acc => zaF r acc (fun y _ => some y) (acc.length + 1) ([] : List Int) 0) (f := fun m acc i => zb0 (za9 r a) (za9 r b) _ m acc i) (fun m i x acc hx hacc => by
    have hi := zav hx
    simp only [zb0, jn, zaq hx, zae hx, cond_true, Option.bind_some, zag hi (show (za9 r a).length ≤ zam by unfold zam; omega), zfX (show (za9 r b).length ≤ 1000000 by omega), ap1 (show acc.length ≤ 1048576 by omega)]
    cases zfW (za9 r b) x <;> rfl) (fun m acc => by simp only [zb0, zai, cond_false]) (by omega)]
  have e : ((za9 r a).filter (zfW (za9 r b))).map (fun x => x) = zdm r a b := by simp [zdm]
  rw [e]
  have := zhH h hl hm (zdm r a b).length 0 ((zdm r a b).length + 1) [] (by omega) (by omega) (by simp)
  refine this.trans ?_
  unfold zaC zkr
  rw [List.range_eq_range']
  rfl
theorem ziM {r : Repo} {a b x : Int} (h : x ∈ zaC r a b) : 0 ≤ x ∧ x ≤ (r.Commits.length : Int) - 1 := by
  unfold zaC zkr at h
  obtain ⟨i, hi, rfl⟩ := List.mem_map.1 h
  have hr := List.mem_range.1 (List.mem_filter.1 hi).1
  rw [zcg (List.getElem?_eq_getElem hr)]
  exact zbI (List.mem_filter.1 (List.getElem_mem hr)).1
theorem zjK (r : Repo) (a b : Int) : (zaC r a b).length ≤ r.Commits.length := by
  unfold zaC zkr
  rw [List.length_map]
  refine Nat.le_trans (List.length_filter_le _ _) ?_
  rw [List.length_range]
  exact Nat.le_trans (List.length_filter_le _ _) (zcM r a)
def zgY (s : List Str) (p : Part) : Option (List Str) := bif p.Clash then none else some (s ++ p.Lines)
def zcG (ps : List Part) : List Str × Bool := match ps.foldlM zgY [] with
  | some s => okT s
  | none => ([], false)
theorem zil {i : Nat} {s s' : List Str} {p : Part} (hp : p.Lines.length ≤ 22000) (hpl : ∀ x ∈ p.Lines, zcE x = true) (hI : zog i s) (hst : zgY s p = some s') : zog (i + 1) s' := by
  unfold zgY at hst
  cases hc : p.Clash with
  | true => rw [hc] at hst; cases hst
  | false =>
    rw [hc, cond_false] at hst
    cases hst
    refine ⟨by rw [List.length_append]; have := hI.1; omega, fun x hx => ?_⟩
    rcases List.mem_append.1 hx with h1 | h1
    · exact hI.2 x h1
    · exact hpl x h1
theorem zkS {o a b : List Str} (hto : zar o = true) (hta : zar a = true) (htb : zar b = true) : zgu (zaB o a b) = some (zcG (zaB o a b)) := by
  obtain ⟨hlen, hparts⟩ := zhU hto hta htb
  unfold zgu zcG
  simp only [jn, zas]
  obtain ⟨h1, h2⟩ := zhb (xs := zaB o a b) (step := zgY) (r0 := some (([] : List Str), false)) (Inv := zog) (s0 := []) (Z := fun s => (zdq s).bind fun z30 => bif (!z30) then (some (([] : List Str), false)) else (some (s, true))) (f := fun m s i => zct (zaB o a b) (fun _ _ y7 _ => (zdq y7).bind fun z30 => bif (!z30) then (some (([] : List Str), false)) else (some (y7, true))) m [] false s i) (fun m i p s hx hI => by
    have hi := zav hx
    obtain ⟨p1, p2, _⟩ := hparts p (List.mem_of_getElem? hx)
    refine ⟨?_, fun s' hst => zil p1 p2 hI hst⟩
    have hs := hI.1
    simp only [zct, zaq hx, zae hx, cond_true, Option.bind_some, zag hi (show (zaB o a b).length ≤ zam by unfold zam; omega), apT (show s.length ≤ 1000000 by omega) (show p.Lines.length ≤ 1000000 by omega)]
    unfold zgY
    cases p.Clash <;> rfl) (fun m s hI => by simp only [zct, zai, cond_false]) (m := (zaB o a b).length + 1) (by omega) ⟨by simp, by simp⟩
  refine h1.trans ?_
  cases hf : (zaB o a b).foldlM zgY [] with
  | none => rfl
  | some s =>
    have hI := h2 s hf
    have hs := hI.1
    show (zdq s).bind _ = some (okT s)
    rw [ziX (zbT (by omega) hI.2), Option.bind_some]
    unfold okT
    cases zar s <;> rfl
theorem zkT {ps : List Part} : (zcG ps).2 = true → zar (zcG ps).1 = true := by
  unfold zcG okT
  cases ps.foldlM zgY [] with
  | none => intro h; cases h
  | some s =>
    show (bif zar s then (s, true) else (([] : List Str), false)).2 = true → zar (bif zar s then (s, true) else (([] : List Str), false)).1 = true
    cases ht : zar s with
    | true => intro _; exact ht
    | false => intro h; cases h
def getT (t : List File) (p : Str) : List Str × Bool := match t.find? (fun f => f.Path == p) with
  | some f => (f.Text, true)
  | none => ([], false)
theorem zhI {t : List File} (h : TB t) (p : Str) : zgC t p = some (getT t p) := by
  have hm := h.maxi
  unfold zgC getT
  simp only [jn, zas]
  rw [zcX (p := fun f : File => f.Path == p) (xs := t) (r := fun f => some (f.Text, true)) (Z := some (([] : List Str), false)) (f := fun m k => zda t p _ m [] false k) (fun m i x hx => by
    simp only [zda, zaq hx, zae hx, cond_true, Option.bind_some, zag (zav hx) hm]) (fun m => by simp only [zda, zai, cond_false]) (by omega)]
  cases t.find? (fun f => f.Path == p) <;> rfl
theorem ziN {t : List File} (h : TB t) (p : Str) : (getT t p).1.length ≤ 1048576 ∧ Bk.fit (getT t p).1 := by
  unfold getT
  cases hf : t.find? (fun f => f.Path == p) with
  | some f =>
    have := h.2 f (List.mem_of_find?_eq_some hf)
    exact ⟨this.len, this.text⟩
  | none => exact ⟨by simp, by simp [zam], by simp⟩
def zaA (t : List File) : Prop := ∀ f ∈ t, zar f.Text = true
theorem zba {t : List File} (h : zaA t) (p : Str) : zar (getT t p).1 = true := by
  unfold getT
  cases hf : t.find? (fun f => f.Path == p) with
  | some f => exact h f (List.mem_of_find?_eq_some hf)
  | none => rfl
def zfc (a b : List Str × Bool) : Bool := (a.2 == b.2) && (bif a.2 then a.1 == b.1 else true)
theorem zim {a b : List Str × Bool} (h : a.1.length ≤ 1048576) : zfn a.1 a.2 b.1 b.2 = some (zfc a b) := by
  unfold zfn zfc
  simp only [jn, zf7 (zan h), Option.bind_some]
  cases a.2 <;> cases b.2 <;> rfl
def oneF (o a b : List File) (p : Str) : List Str × Bool × Int :=
  let zo := getT o p; let za := getT a p; let zb := getT b p
  bif zfc za zo || zfc za zb then (zb.1, zb.2, 0)
  else bif zfc zb zo then (za.1, za.2, 0)
  else bif !za.2 || !zb.2 then (zo.1, zo.2, 1)
  else bif !zo.2 then ([], false, 2)
  else bif (zcG (zaB zo.1 za.1 zb.1)).2 then ((zcG (zaB zo.1 za.1 zb.1)).1, true, 0) else (zo.1, true, 3)
theorem zlC {o a b : List File} (ho : TB o) (ha : TB a) (hb : TB b) (to : zaA o) (ta : zaA a) (tb : zaA b) (p : Str) : zho o a b p = some (oneF o a b p) := by
  have eo := zba to p
  have ea := zba ta p
  have eb := zba tb p
  have lo := zay eo
  have la := zay ea
  have lb := zay eb
  unfold zho oneF
  simp only [jn, zhI ho, zhI ha, zhI hb, Option.bind_some, zim (a := getT a p) (ziN ha p).1, zim (a := getT b p) (ziN hb p).1, zmH (show (getT o p).1.length ≤ 1000 by omega) (show (getT a p).1.length ≤ 1000 by omega) (show (getT b p).1.length ≤ 1000 by omega), zkS eo ea eb]
  cases zfc (getT a p) (getT o p) <;> cases zfc (getT a p) (getT b p) <;> cases zfc (getT b p) (getT o p) <;> cases (getT a p).2 <;> cases (getT b p).2 <;> cases (getT o p).2 <;> cases (zcG (zaB (getT o p).1 (getT a p).1 (getT b p).1)).2 <;> rfl
theorem zin {o a b : List File} (to : zaA o) (ta : zaA a) (tb : zaA b) (p : Str) : zar (oneF o a b p).1 = true := by
  have eo := zba to p
  have ea := zba ta p
  have eb := zba tb p
  unfold oneF
  simp only
  cases zfc (getT a p) (getT o p) || zfc (getT a p) (getT b p) with
  | true => exact eb
  | false =>
    cases zfc (getT b p) (getT o p) with
    | true => exact ea
    | false =>
      cases !(getT a p).2 || !(getT b p).2 with
      | true => exact eo
      | false =>
        cases !(getT o p).2 with
        | true => rfl
        | false =>
          cases hl : (zcG (zaB (getT o p).1 (getT a p).1 (getT b p).1)).2 with
          | true => exact zkT hl
          | false => exact eo
def zbb (o a b : List File) : List Str := (b.map (·.Path)).foldl zgN ((a.map (·.Path)).foldl zgN ((o.map (·.Path)).foldl zgN []))
theorem zcN : ∀ (ps : List Str) (l : List Str), Asd l → Asd (ps.foldl zgN l)
  | [], l, h => h
  | p :: ps, l, h => zcN ps _ (zeK _ _)
theorem zcO : ∀ (ps : List Str) (l : List Str), (ps.foldl zgN l).length ≤ l.length + ps.length
  | [], l => by simp
  | p :: ps, l => by
    have h1 := zcO ps (zgN l p)
    have h2 := zhF l p
    simp only [List.foldl_cons, List.length_cons]
    omega
theorem zeP : ∀ (ps : List Str) (l : List Str) (x : Str), x ∈ ps.foldl zgN l ↔ x ∈ l ∨ x ∈ ps
  | [], l, x => by simp
  | p :: ps, l, x => by
    rw [List.foldl_cons, zeP ps, insS_mem, List.mem_cons]
    constructor
    · rintro ((h | h) | h)
      · exact .inl h
      · exact .inr (.inl h)
      · exact .inr (.inr h)
    · rintro (h | h | h)
      · exact .inl (.inl h)
      · exact .inl (.inr h)
      · exact .inr h
theorem zd9 {t : List File} (h : TB t) (ht : t.length ≤ 1000) {f : Nat → List Str → Int → Option (List Str)} {Z : List Str → Option (List Str)}
    (hs : ∀ m (i : Nat) x acc, t[i]? = some x → f (m + 1) acc (i : Int) = (zeC acc x.Path).bind fun z => f m z (w64 ((i : Int) + 1))) (he : ∀ m acc, f (m + 1) acc (t.length : Int) = Z acc) : ∀ (k i m : Nat) (acc : List Str), i + k = t.length → k < m → Asd acc → acc.length ≤ 10000 + i →
    f m acc (i : Int) = Z (((t.drop i).map (·.Path)).foldl zgN acc)
  | k, i, 0, acc, _, hm, _, _ => by omega
  | 0, i, m + 1, acc, hi, _, _, _ => by
    obtain rfl : i = t.length := by omega
    rw [he, List.drop_length]; rfl
  | k + 1, i, m + 1, acc, hi, hm, ha, hl => by
    have hlt : i < t.length := by omega
    have hx : t[i]? = some t[i] := List.getElem?_eq_getElem hlt
    have hil := zhF acc t[i].Path
    rw [hs m i _ acc hx, zlx (by omega) ha, Option.bind_some, zag hlt h.maxi, zd9 h ht hs he k (i + 1) m _ (by omega) (by omega) (zeK _ _) (by omega), List.drop_eq_getElem_cons hlt]
    rfl
theorem zj6 {o a b : List File} (ho : TB o) (ha : TB a) (hb : TB b) (so : o.length ≤ 100) (sa : a.length ≤ 100) (sb : b.length ≤ 100) : zfu o a b = some (zbb o a b) := by
  unfold zfu zbb
  simp only [jn, zas]
  have l1 := zcO (o.map (·.Path)) []
  have l2 := zcO (a.map (·.Path)) ((o.map (·.Path)).foldl zgN [])
  have a0 : Asd ([] : List Str) := List.Pairwise.nil
  have a1 := zcN (o.map (·.Path)) [] a0
  have a2 := zcN (a.map (·.Path)) _ a1
  simp only [List.length_map, List.length_nil] at l1 l2
  have e3 := fun acc (h1 : Asd acc) (h2 : acc.length ≤ 10000) => zd9 hb (by omega) (f := fun m acc i => zax b (fun y40 _ => some y40) m acc i) (Z := fun acc => some acc) (fun m i x acc hx => by simp only [zax, zaq hx, zae hx, cond_true, Option.bind_some]) (fun m acc => by simp only [zax, zai, cond_false]) b.length 0 (b.length + 1) acc (by omega) (by omega) h1 (by omega)
  have e2 := fun acc (h1 : Asd acc) (h2 : acc.length ≤ 10000) => zd9 ha (by omega) (f := fun m acc i => zaY a (fun y23 _ => zax b (fun y40 _ => some y40) (b.length + 1) y23 0) m acc i) (Z := fun acc => zax b (fun y40 _ => some y40) (b.length + 1) acc 0) (fun m i x acc hx => by simp only [zaY, zaq hx, zae hx, cond_true, Option.bind_some]) (fun m acc => by simp only [zaY, zai, cond_false]) a.length 0 (a.length + 1) acc (by omega) (by omega) h1 (by omega)
  have e1 := fun acc (h1 : Asd acc) (h2 : acc.length ≤ 10000) => zd9 ho (by omega) (f := fun m acc i => zb1 o (fun y6 _ => zaY a (fun y23 _ => zax b (fun y40 _ => some y40) (b.length + 1) y23 0) (a.length + 1) y6 0) m acc i) (Z := fun acc => zaY a (fun y23 _ => zax b (fun y40 _ => some y40) (b.length + 1) y23 0) (a.length + 1) acc 0) (fun m i x acc hx => by simp only [zb1, zaq hx, zae hx, cond_true, Option.bind_some]) (fun m acc => by simp only [zb1, zai, cond_false]) o.length 0 (o.length + 1) acc (by omega) (by omega) h1 (by omega)
  refine (e1 [] a0 (by simp)).trans ?_
  rw [List.drop_zero]
  refine (e2 _ a1 (by omega)).trans ?_
  rw [List.drop_zero]
  refine (e3 _ a2 (by omega)).trans ?_
  rw [List.drop_zero]
theorem zfd (o a b : List File) : (zbb o a b).length ≤ o.length + a.length + b.length := by
  unfold zbb
  have l1 := zcO (o.map (·.Path)) []
  have l2 := zcO (a.map (·.Path)) ((o.map (·.Path)).foldl zgN [])
  have l3 := zcO (b.map (·.Path)) ((a.map (·.Path)).foldl zgN ((o.map (·.Path)).foldl zgN []))
  simp only [List.length_map, List.length_nil] at l1 l2 l3
  omega
theorem pathsF_mem {o a b : List File} {x : Str} : x ∈ zbb o a b ↔ (∃ f ∈ o, f.Path = x) ∨ (∃ f ∈ a, f.Path = x) ∨ (∃ f ∈ b, f.Path = x) := by
  unfold zbb
  rw [zeP, zeP, zeP]
  simp only [List.mem_map, List.not_mem_nil, false_or]
  constructor
  · rintro ((h | h) | h)
    · exact .inl h
    · exact .inr (.inl h)
    · exact .inr (.inr h)
  · rintro (h | h | h)
    · exact .inl (.inl h)
    · exact .inl (.inr h)
    · exact .inr h
def zf3 (o a b : List File) (p : Str) : Option File := bif (oneF o a b p).2.1 then some ⟨p, (oneF o a b p).1⟩ else none
def zfi (o a b : List File) (p : Str) : Option Clash := bif decide (0 < (oneF o a b p).2.2) then some ⟨p, (oneF o a b p).2.2⟩ else none
def zdC (o a b : List File) : List File := (zbb o a b).filterMap (zf3 o a b)
def zeb (o a b : List File) : List Clash := (zbb o a b).filterMap (zfi o a b)
theorem zio {o a b : List File} (ho : TB o) (ha : TB a) (hb : TB b) (to : zaA o) (ta : zaA a) (tb : zaA b) {ps : List Str} (hp : ps.length ≤ 1000) : ∀ (k i m : Nat) (fs : List File) (cs : List Clash), i + k = ps.length → k < m → fs.length ≤ i → cs.length ≤ i →
    zdZ o a b ps (fun y16 y19 _ => some (y16, y19)) m fs cs (i : Int) = some (fs ++ (ps.drop i).filterMap (zf3 o a b), cs ++ (ps.drop i).filterMap (zfi o a b))
  | k, i, 0, fs, cs, _, hm, _, _ => by omega
  | 0, i, m + 1, fs, cs, hi, _, _, _ => by
    obtain rfl : i = ps.length := by omega
    simp only [zdZ, zai, cond_false, List.drop_length]
    simp
  | k + 1, i, m + 1, fs, cs, hi, hm, hf, hc => by
    have hlt : i < ps.length := by omega
    have hx : ps[i]? = some ps[i] := List.getElem?_eq_getElem hlt
    have ih := fun fs cs h1 h2 => zio ho ha hb to ta tb hp k (i + 1) m fs cs (by omega) (by omega) h1 h2
    have ht := zay (zin to ta tb ps[i])
    simp only [zdZ, jn, zaq hx, zae hx, cond_true, Option.bind_some, zag hlt (show ps.length ≤ zam by unfold zam; omega), zlC ho ha hb to ta tb, apN (show (oneF o a b ps[i]).1.length ≤ 1048576 by omega), ap1 (x := (⟨ps[i], (oneF o a b ps[i]).1⟩ : File)) (show fs.length ≤ 1048576 by omega), ap1 (x := (⟨ps[i], (oneF o a b ps[i]).2.2⟩ : Clash)) (show cs.length ≤ 1048576 by omega)]
    rw [List.drop_eq_getElem_cons hlt, List.filterMap_cons, List.filterMap_cons]
    unfold zf3 zfi at ih ⊢
    cases (oneF o a b ps[i]).2.1 <;> cases decide (0 < (oneF o a b ps[i]).2.2) <;> simp only [cond_true, cond_false]
    · rw [ih _ _ (by omega) (by omega)]
    · rw [ih _ _ (by omega) (by simp; omega)]; simp
    · rw [ih _ _ (by simp; omega) (by omega)]; simp
    · rw [ih _ _ (by simp; omega) (by simp; omega)]; simp
theorem zmN {o a b : List File} (ho : TB o) (ha : TB a) (hb : TB b) (to : zaA o) (ta : zaA a) (tb : zaA b) (so : o.length ≤ 100) (sa : a.length ≤ 100) (sb : b.length ≤ 100) : ziA o a b = some (zdC o a b, zeb o a b) := by
  have hl := zfd o a b
  unfold ziA
  rw [zj6 ho ha hb so sa sb, Option.bind_some]
  simp only [jn, zas]
  have := zio ho ha hb to ta tb (ps := zbb o a b) (by omega) (zbb o a b).length 0 ((zbb o a b).length + 1) [] [] (by omega) (by omega) (by simp) (by simp)
  refine this.trans ?_
  simp [zdC, zeb]
theorem zgn {o a b : List File} (ho : TB o) (ha : TB a) (hb : TB b) (to : zaA o) (ta : zaA a) (tb : zaA b) (so : o.length ≤ 100) (sa : a.length ≤ 100) (sb : b.length ≤ 100) : TB (zdC o a b) := by
  have hl := zfd o a b
  refine ⟨Nat.le_trans (List.length_filterMap_le _ _) (by omega), fun f hf => ?_⟩
  obtain ⟨p, hp, he⟩ := List.mem_filterMap.1 hf
  unfold zf3 at he
  cases h2 : (oneF o a b p).2.1 with
  | false => rw [h2] at he; cases he
  | true =>
    rw [h2, cond_true] at he
    cases he
    have ht := zin to ta tb p
    have hlen := zay ht
    refine ⟨?_, by show (oneF o a b p).1.length ≤ _; omega, zbT (s := (oneF o a b p).1) (by omega) (zaT ht)⟩
    rcases pathsF_mem.1 hp with ⟨g, hg, e⟩ | ⟨g, hg, e⟩ | ⟨g, hg, e⟩
    · rw [← e]; exact (ho.2 g hg).path
    · rw [← e]; exact (ha.2 g hg).path
    · rw [← e]; exact (hb.2 g hg).path
def zbc (o a b : List File) : List File × List Clash := bif ((zeb o a b).length : Int) == 0 && !zap (zdC o a b) then (o, [⟨[], 4⟩]) else (zdC o a b, zeb o a b)
theorem zhw {o a b : List File} (ho : TB o) (ha : TB a) (hb : TB b) (to : zaA o) (ta : zaA a) (tb : zaA b) (so : o.length ≤ 100) (sa : a.length ≤ 100) (sb : b.length ≤ 100) : zfo o a b = some (zbc o a b) := by
  unfold zfo zbc
  simp only [jn, zmN ho ha hb to ta tb so sa sb, Option.bind_some, zer (zgn ho ha hb to ta tb so sa sb), zcj ho]
  cases (((zeb o a b).length : Int) == 0) <;> cases zap (zdC o a b) <;> rfl
theorem zfY {o a b : List File} (ho : TB o) (ha : TB a) (hb : TB b) (to : zaA o) (ta : zaA a) (tb : zaA b) (so : o.length ≤ 100) (sa : a.length ≤ 100) (sb : b.length ≤ 100) : TB (zbc o a b).1 := by
  unfold zbc
  cases (((zeb o a b).length : Int) == 0 && !zap (zdC o a b))
  · exact zgn ho ha hb to ta tb so sa sb
  · exact ho
theorem zak {t : List File} (h : zap t = true) : zaA t := by
  intro f hf
  obtain ⟨i, hi⟩ := List.mem_iff_getElem?.1 hf
  unfold zap at h
  simp only [Bool.and_eq_true] at h
  have := zaX.1 h.2 i (Nat.zero_le _) (by have := zav hi; omega)
  unfold zgi zgh at this
  rw [zbk hi] at this
  simp only [Bool.and_eq_true] at this
  exact this.1.2.1
theorem zch {t : List File} (h : zap t = true) {f : File} (hf : f ∈ t) : zaM f.Path = true := by
  obtain ⟨i, hi⟩ := List.mem_iff_getElem?.1 hf
  unfold zap at h
  simp only [Bool.and_eq_true] at h
  have := zaX.1 h.2 i (Nat.zero_le _) (by have := zav hi; omega)
  unfold zgi zgh at this
  rw [zbk hi] at this
  simp only [Bool.and_eq_true] at this
  exact this.1.1
theorem zhJ (c : UInt8) : ∀ (r w : Str), w.length + r.length + 1 = zcT (fun p => p.length + 1) (curS c w r)
  | [], w => by simp [curS, zcT]
  | x :: r, w => by
    unfold curS
    cases x == c with
    | true =>
      rw [cond_true]
      have := zhJ c r []
      simp only [zcT, List.length_nil, List.length_cons] at this ⊢
      omega
    | false =>
      rw [cond_false]
      have := zhJ c r (w ++ [x])
      simp only [List.length_append, List.length_cons, List.length_nil] at this ⊢
      omega
theorem zl6 {c : Nat} : ∀ {l : List Str}, (∀ p ∈ l, p.length + 1 ≤ c) → zcT (fun p => p.length + 1) l ≤ c * l.length
  | [], _ => by simp [zcT]
  | x :: l, h => by
    have h1 := h x (by simp)
    have h2 := zl6 (c := c) (l := l) (fun p hp => h p (List.mem_cons_of_mem _ hp))
    simp only [zcT, List.length_cons, Nat.mul_add, Nat.mul_one]
    omega
theorem zbQ {s : Str} (h : zaD s = true) : s.length ≤ 6 := by
  unfold zaD at h
  simp only [Bool.and_eq_true, decide_eq_true_eq] at h
  omega
theorem zdj {s : Str} (h : zaM s = true) : s.length ≤ 20 := by
  unfold zaM at h
  simp only [Bool.and_eq_true, decide_eq_true_eq, List.all_eq_true] at h
  have h1 := zhJ 47 s []
  have h2 := zl6 (c := 7) (l := curS 47 [] s) (fun p hp => by have := zbQ (h.2 p hp); omega)
  simp only [List.length_nil] at h1
  omega
theorem zkU {d p : Str} (h : za2 d p = true) : d.length + 1 ≤ p.length := by
  unfold za2 at h
  have := (List.isPrefixOf_iff_prefix.1 h).length_le
  simpa using this
def zey (p to : Str) (acc : List File) (g : File) : List File := bif !zlZ p g then zgH ⟨to ++ g.Path.drop p.length, g.Text⟩ false acc else acc
def zj7 (t : List File) (p to : Str) : List File × Bool :=
  bif zap t then (bif ((((zbU p t).length : Int)) == (t.length : Int)) || !zaM to then (t, false) else (bif !zap (t.foldl (zey p to) (zbU p t)) || (((t.foldl (zey p to) (zbU p t)).length : Int) != (t.length : Int)) then (t, false) else (t.foldl (zey p to) (zbU p t), true))) else ([], false)
theorem zkV {p to : Str} {acc : List File} {g : File} (hg : FB g) (hp : g.Path.length ≤ 20) (ht : to.length ≤ 20) (ha : TB acc) (hl : acc.length ≤ 1000) : TB (zey p to acc g) ∧ (zey p to acc g).length ≤ acc.length + 1 := by
  unfold zey
  cases !zlZ p g
  · exact ⟨ha, by simp⟩
  · refine ⟨ha.putF (by omega) ⟨?_, hg.len, hg.text⟩, ?_⟩
    · simp only [List.length_append, List.length_drop]; omega
    · have := zhf ⟨to ++ g.Path.drop p.length, g.Text⟩ acc false
      simp only [cond_false, cond_true] at this ⊢
      omega
theorem zi5 {t : List File} (h : TB t) (hs : t.length ≤ 8) (hp : ∀ f ∈ t, f.Path.length ≤ 20) {p to : Str} (ht : to.length ≤ 20) {K : List File → Int → Option (List File × Bool)} : ∀ (k i m : Nat) (acc : List File), i + k = t.length → k < m → TB acc → acc.length ≤ 100 + i →
    zaP t p to K m acc (i : Int) = K ((t.drop i).foldl (zey p to) acc) (t.length : Int) ∧ TB ((t.drop i).foldl (zey p to) acc)
  | k, i, 0, acc, _, hm, _, _ => by omega
  | 0, i, m + 1, acc, hi, _, ha, _ => by
    obtain rfl : i = t.length := by omega
    simp only [zaP, zai, cond_false, List.drop_length]
    exact ⟨rfl, ha⟩
  | k + 1, i, m + 1, acc, hi, hm, ha, hl => by
    have hlt : i < t.length := by omega
    have hx : t[i]? = some t[i] := List.getElem?_eq_getElem hlt
    have hm' := List.getElem_mem hlt
    have hg := h.at_ hx
    have hpl := hp _ hm'
    obtain ⟨i1, i2⟩ := zkV (p := p) (to := to) hg hpl ht ha (by omega)
    have ih := zi5 h hs hp (p := p) (to := to) ht (K := K) k (i + 1) m (zey p to acc t[i]) (by omega) (by omega) i1 (by omega)
    rw [List.drop_eq_getElem_cons hlt, List.foldl_cons]
    refine ⟨?_, ih.2⟩
    rw [← ih.1]
    simp only [zaP, jn, zaq hx, zae hx, cond_true, Option.bind_some, zag hlt h.maxi, zi1 hg.path]
    unfold zey zlZ
    have hrun : p.length ≤ t[i].Path.length → ((slM t[i].Path (p.length : Int) (t[i].Path.length : Int)).bind fun q67 => (saM to q67).bind fun q69 => (zeX acc ⟨q69, t[i].Text⟩).bind fun z77 => zaP t p to K m z77 ((i + 1 : Nat) : Int)) = zaP t p to K m (zgH ⟨to ++ t[i].Path.drop p.length, t[i].Text⟩ false acc) ((i + 1 : Nat) : Int) := fun hle => by
      have hsa : saM to (t[i].Path.drop p.length) = some (to ++ t[i].Path.drop p.length) := by
        unfold saM
        rw [if_pos]
        simp only [List.length_drop, lim]
        omega
      rw [zjb hle, Option.bind_some, hsa, Option.bind_some, zjB (g := ⟨to ++ t[i].Path.drop p.length, t[i].Text⟩) ha (by omega) ⟨by simp only [List.length_append, List.length_drop]; omega, hg.len, hg.text⟩, Option.bind_some]
    cases he : t[i].Path == p with
    | true =>
      have e : t[i].Path = p := by simpa using he
      have e2 : (t[i].Path != p) = false := by rw [bne, he]; rfl
      rw [e2]
      exact hrun (by rw [e]; exact Nat.le_refl _)
    | false =>
      have e2 : (t[i].Path != p) = true := by rw [bne, he]; rfl
      rw [e2]
      cases hb : za2 p t[i].Path with
      | false => rfl
      | true => exact hrun (by have := zkU hb; omega)
theorem ziq {t : List File} (h : TB t) (p to : Str) (hto : to.length ≤ 1048576) : zc6 t p to = some (zj7 t p to) := by
  unfold zc6 zj7
  rw [zer h, Option.bind_some]
  cases htr : zap t with
  | false => rfl
  | true =>
    have hs := zal htr
    rw [Bool.not_true, cond_false, cond_true, zcj h, Option.bind_some, zih h, Option.bind_some]
    simp only [jn, zas, zeN hto, Option.bind_some]
    cases (((zbU p t).length : Int) == (t.length : Int)) with
    | true => rfl
    | false =>
      cases hpt : zaM to with
      | false => rfl
      | true =>
        obtain ⟨e1, e2⟩ := zi5 h hs (fun f hf => zdj (zch htr hf)) (p := p) (zdj hpt) (K := fun y39 _ => (zdD y39).bind fun z115 => bif (!z115) then (some (t, false)) else (bif ((y39.length : Int) != (t.length : Int)) then (some (t, false)) else (some (y39, true)))) t.length 0 (t.length + 1) (zbU p t) (by omega) (by omega) (h.dropF p) (by have := List.length_filter_le (zlZ p) t; unfold zbU; omega)
        rw [List.drop_zero] at e1 e2
        simp only [Bool.false_or, Bool.not_true, cond_false, cond_true]
        refine e1.trans ?_
        show (zdD _).bind _ = _
        rw [zer e2, Option.bind_some]
        cases zap (t.foldl (zey p to) (zbU p t)) <;> cases (((t.foldl (zey p to) (zbU p t)).length : Int) != (t.length : Int)) <;> rfl
structure Gd (q : Prop) (r : Repo) : Prop where
  rb : RpB r
  ok : zaa r = true
  hd : q → r.Commits ≠ [] → r.Heads ≠ []
abbrev Good : Repo → Prop := Gd True
variable {q : Prop}
def zac (r : Repo) (i : Nat) : List File := (r.Commits.getD i noCommit).Tree
theorem Gd.tree {r : Repo} (h : Gd q r) {i : Nat} (hi : i < r.Commits.length) : TB (zac r i) ∧ zap (zac r i) = true ∧ zaA (zac r i) ∧ (zac r i).length ≤ 8 := by
  have hx : r.Commits[i]? = some r.Commits[i] := List.getElem?_eq_getElem hi
  have h1 : zap (zac r i) = true := by
    have := zgl h.ok hi
    unfold zki at this
    simp only [Bool.and_eq_true] at this
    exact this.2.2.2.2
  refine ⟨?_, h1, zak h1, zal h1⟩
  unfold zac
  rw [zdG hx]
  exact (h.rb.cat hx).tree
theorem zfZ : TB ([] : List File) ∧ zap [] = true ∧ zaA [] ∧ ([] : List File).length ≤ 8 := ⟨TB.nil, rfl, fun f hf => by simp at hf, by simp⟩
theorem zbd {r : Repo} {z : Int} (h0 : 0 ≤ z) (h1 : z ≤ (r.Commits.length : Int) - 1) : gi r.Commits z = some (r.Commits.getD z.toNat noCommit) := by
  obtain ⟨n, rfl⟩ := Int.eq_ofNat_of_zero_le h0
  exact zij (by omega)
theorem zi6 (n : Str) (a : Int) : ∀ (hs : List Head), zed n a false hs ≠ []
  | [] => by simp [zed]
  | h :: hs => by
    unfold zed
    cases hb : Op.bytesLess h.Name n
    · simp
    · have := zi6 n a hs
      cases (h.Name != n) <;> simp [this]
def zd2 (n : Str) (a : Int) (h : Head) : Head := bif h.Name == n then ⟨n, a⟩ else h
theorem zgP (n : Str) (a : Int) : ∀ (hs : List Head), (∀ h ∈ hs, h.Name ≠ n) → zed n a true hs = hs
  | [], _ => rfl
  | h :: hs, hn => by
    have h1 : (h.Name != n) = true := by simpa using hn h (by simp)
    unfold zed
    rw [h1, Bool.true_or, zgP n a hs (fun x hx => hn x (List.mem_cons_of_mem _ hx))]
    rfl
theorem zfE (n : Str) (a : Int) : ∀ (hs : List Head), hs.Pairwise (fun x y => x.Name < y.Name) → (∃ h ∈ hs, h.Name = n) → zed n a false hs = hs.map (zd2 n a)
  | [], _, h => by obtain ⟨x, hx, _⟩ := h; simp at hx
  | h :: hs, hp, he => by
    obtain ⟨p1, p2⟩ := List.pairwise_cons.1 hp
    unfold zed
    rw [List.map_cons]
    cases hb : Op.bytesLess h.Name n with
    | true =>
      rw [zaR] at hb
      have hlt : h.Name < n := by simpa using hb
      have hne : h.Name ≠ n := fun e => by rw [e] at hlt; exact zaj _ hlt
      have h1 : (h.Name != n) = true := by simpa using hne
      have h2 : (h.Name == n) = false := beq_false_of_ne hne
      have ht : ∃ x ∈ hs, x.Name = n := by
        obtain ⟨x, hx, e⟩ := he
        rcases List.mem_cons.1 hx with e2 | e2
        · rw [e2] at e; exact absurd e hne
        · exact ⟨x, e2, e⟩
      rw [h1]
      simp only [Bool.not_true, Bool.and_false, cond_false, cond_true, List.nil_append, Bool.or_false, List.singleton_append]
      rw [zfE n a hs p2 ht]
      unfold zd2
      rw [h2]
      rfl
    | false =>
      rw [zaR] at hb
      have hge : n ≤ h.Name := zhE.1 (by simpa using hb)
      cases h2 : h.Name == n with
      | true =>
        have e : h.Name = n := by simpa using h2
        have h1 : (h.Name != n) = false := by rw [bne, h2]; rfl
        have hno : ∀ x ∈ hs, x.Name ≠ n := fun x hx e2 => by
          have := p1 x hx
          rw [e, e2] at this
          exact zaj _ this
        rw [h1, Bool.not_false, Bool.or_true, zgP n a hs hno]
        have hm : hs.map (zd2 n a) = hs := by
          conv => rhs; rw [← List.map_id hs]
          refine List.map_congr_left (fun x hx => ?_)
          unfold zd2
          rw [beq_false_of_ne (hno x hx)]
          rfl
        rw [hm]
        unfold zd2
        rw [h2]
        rfl
      | false =>
        exfalso
        have hne : n ≠ h.Name := fun e => by rw [e] at h2; simp at h2
        have hlt := zbv hge hne
        obtain ⟨x, hx, e⟩ := he
        rcases List.mem_cons.1 hx with e2 | e2
        · rw [e2] at e; exact hne e.symm
        · have := p1 x e2
          rw [e] at this
          exact zaj _ (zaS hlt this)
theorem zir {r : Repo} (h : zaa r = true) : r.Heads.Pairwise (fun x y => x.Name < y.Name) := by
  unfold zaa zcD at h
  simp only [Bool.and_eq_true] at h
  have hg := zaX.1 h.2.2.1
  have step : ∀ i, (hi : i + 1 < r.Heads.length) → (r.Heads[i]'(by omega)).Name < r.Heads[i + 1].Name := fun i hi => by
    have := hg (i + 1) (by omega) (by omega)
    unfold zfl at this
    rw [za8 (List.getElem?_eq_getElem hi), decide_eq_true (by omega), Nat.add_sub_cancel, za8 (List.getElem?_eq_getElem (show i < r.Heads.length by omega))] at this
    simp only [cond_true, Bool.and_eq_true, zaR, decide_eq_true_eq] at this
    exact this.2.2
  refine List.pairwise_iff_getElem.2 fun i j hi hj hij => ?_
  induction j with
  | zero => omega
  | succ j ih =>
    rcases Nat.lt_or_ge i j with h1 | h1
    · exact zaS (ih (by omega) h1) (step j hj)
    · have : i = j := by omega
      subst this
      exact step i hj
theorem zkW {r : Repo} {n : Str} (h : 0 ≤ atB r n) : ∃ x ∈ r.Heads, x.Name = n := by
  unfold atB at h
  cases hf : r.Heads.find? (fun h => h.Name == n) with
  | none => rw [hf] at h; simp at h
  | some x => exact ⟨x, List.mem_of_find?_eq_some hf, by simpa using List.find?_some hf⟩
theorem ziD {r : Repo} (h : zaa r = true) {n : Str} (ha : 0 ≤ atB r n) (b : Int) : zb7 r n b = ⟨r.Commits, r.Heads.map (zd2 n b)⟩ := by
  unfold zb7
  rw [zfE n b r.Heads (zir h) (zkW ha)]
theorem zle {r : Repo} (h : zaa r = true) {n : Str} (ha : 0 ≤ atB r n) {b : Int} (h0 : 0 ≤ b) (h1 : b ≤ (r.Commits.length : Int) - 1) : zaa (zb7 r n b) = true := by
  rw [ziD h ha]
  have hh := h
  unfold zaa zcD at h ⊢
  simp only [Bool.and_eq_true, List.length_map] at h ⊢
  refine ⟨h.1, h.2.1, ?_, h.2.2.2⟩
  have hg := zaX.1 h.2.2.1
  refine zaX.2 fun i hi0 hi => ?_
  have hil : i < r.Heads.length := by omega
  have hx : r.Heads[i]? = some r.Heads[i] := List.getElem?_eq_getElem hil
  have hm : ∀ j, j < r.Heads.length → ((r.Heads.map (zd2 n b)).getD j zen).Name = (r.Heads.getD j zen).Name := fun j hj => by
    have hxj : r.Heads[j]? = some r.Heads[j] := List.getElem?_eq_getElem hj
    rw [za8 hxj, za8 (f := zd2 n b r.Heads[j]) (by rw [List.getElem?_map, hxj]; rfl)]
    unfold zd2
    cases he : r.Heads[j].Name == n with
    | true => simpa using (by simpa using he : r.Heads[j].Name = n).symm
    | false => rfl
  have hat : upB r.Commits.length ((r.Heads.map (zd2 n b)).getD i zen).At = true := by
    rw [za8 (f := zd2 n b r.Heads[i]) (by rw [List.getElem?_map, hx]; rfl)]
    unfold zd2 upB
    cases r.Heads[i].Name == n with
    | true => simp [h0, h1]
    | false =>
      have := zgm hh (List.getElem_mem hil)
      simp [this.1, this.2.1]
  have := hg i hi0 (by omega)
  unfold zfl at this ⊢
  simp only [Bool.and_eq_true] at this ⊢
  refine ⟨by rw [hm i hil]; exact this.1, hat, ?_⟩
  rw [hm i hil, hm (i - 1) (by omega)]
  exact this.2.2
def zfS (r : Repo) (a b : Int) : List File := bif ((zaC r a b).length : Int) == 0 then [] else zac r ((zaC r a b).getD ((zaC r a b).length - 1) 0).toNat
theorem ziO {r : Repo} (h : Gd q r) {a b : Int} (ha : 0 ≤ a) (ha' : a ≤ (r.Commits.length : Int) - 1) (hb : 0 ≤ b) (hb' : b ≤ (r.Commits.length : Int) - 1) : zfN r a b = some (zfS r a b) ∧ TB (zfS r a b) ∧ zap (zfS r a b) = true := by
  have hs := (zad h.ok).1
  have hl := zjK r a b
  unfold zfN zfS
  rw [zj5 h.ok ha ha' hb hb', Option.bind_some]
  cases hz : ((zaC r a b).length : Int) == 0 with
  | true => exact ⟨rfl, zfZ.1, zfZ.2.1⟩
  | false =>
    have hne : ((zaC r a b).length : Int) ≠ 0 := by simpa using hz
    have e : w64 (((zaC r a b).length : Int) - 1) = (((zaC r a b).length - 1 : Nat) : Int) := by rw [zah (by omega) (by omega)]; omega
    have hlt : (zaC r a b).length - 1 < (zaC r a b).length := by omega
    have hm : (zaC r a b).getD ((zaC r a b).length - 1) 0 ∈ zaC r a b := by
      rw [zcg (List.getElem?_eq_getElem hlt)]; exact List.getElem_mem hlt
    obtain ⟨q0, q1⟩ := ziM hm
    rw [cond_false, cond_false, e, zhq hlt, Option.bind_some, zbd q0 q1, Option.bind_some]
    have := h.tree (i := ((zaC r a b).getD ((zaC r a b).length - 1) 0).toNat) (by omega)
    exact ⟨rfl, this.1, this.2.1⟩
def zd3 (r : Repo) (n : Str) (c : Commit) : Repo × Int := bif zaa (zb9 r n c) then (zb9 r n c, 0) else (r, 5)
def zg0 (r : Repo) (n who : Str) (b : Int) : Repo × Int :=
  bif zfW (za9 r (atB r n)) b then (r, 2)
  else bif zfW (za9 r b) (atB r n) then (zb7 r n b, 3)
  else
    let j := zbc (zfS r (atB r n) b) (zac r (atB r n).toNat) (zac r b.toNat)
    bif decide (0 < (j.2.length : Int)) then (r, 4) else zd3 r n ⟨[atB r n, b], who, j.1⟩
theorem Gd.add {r : Repo} (h : Gd q r) {n : Str} {c : Commit} (hn : n.length ≤ 1048576) (hc : CB c) (ho : zaa (zb9 r n c) = true) : Gd q (zb9 r n c) := by
  obtain ⟨s1, s2⟩ := zad h.ok
  exact ⟨h.rb.addR (by omega) (by omega) hn hc, ho, fun _ _ => zi6 _ _ _⟩
theorem Gd.head {r : Repo} (h : Gd q r) {n : Str} {b : Int} (hn : n.length ≤ 1048576) (ho : zaa (zb7 r n b) = true) : Gd q (zb7 r n b) := by
  obtain ⟨s1, s2⟩ := zad h.ok
  exact ⟨h.rb.headR (by omega) hn b, ho, fun _ _ => zi6 _ _ _⟩
theorem zgo {r : Repo} (h : Gd q r) {n : Str} {c : Commit} (hn : n.length ≤ 1048576) (hc : CB c) : Gd q (zd3 r n c).1 := by
  unfold zd3
  cases ho : zaa (zb9 r n c) with
  | true => exact h.add hn hc ho
  | false => exact h
theorem zis {r : Repo} (h : Gd q r) {n : Str} {c : Commit} (hn : n.length ≤ 1048576) (hc : CB c) : ((zdy r n c).bind fun z130 => (zcY z130).bind fun z163 => bif (!z163) then (some (r, (5 : Int))) else (some (z130, 0))) = some (zd3 r n c) := by
  obtain ⟨s1, s2⟩ := zad h.ok
  rw [zjz h.rb (by omega) (by omega) n hc, Option.bind_some, zcI (h.rb.addR (by omega) (by omega) hn hc), Option.bind_some]
  unfold zd3
  cases zaa (zb9 r n c) <;> rfl
theorem zj8 {r : Repo} (h : Gd q r) {n who : Str} {b : Int} (hn : n.length ≤ 1048576) (hw : who.length ≤ 1048576) (ha : 0 ≤ atB r n) (hb : 0 ≤ b) (hb' : b ≤ (r.Commits.length : Int) - 1) : zd0 r n who b = some (zg0 r n who b) ∧ Gd q (zg0 r n who b).1 := by
  obtain ⟨s1, s2⟩ := zad h.ok
  have ha' : atB r n ≤ (r.Commits.length : Int) - 1 := by rcases at_range h.ok n with e | e <;> omega
  have l1 := zcM r (atB r n)
  have l2 := zcM r b
  obtain ⟨e1, e2, e3⟩ := ziO h ha ha' hb hb'
  obtain ⟨ta, ta2, ta3, ta4⟩ := h.tree (i := (atB r n).toNat) (by omega)
  obtain ⟨tb, tb2, tb3, tb4⟩ := h.tree (i := b.toNat) (by omega)
  have hbs := zal e3
  have hj := zfY e2 ta tb (zak e3) ta3 tb3 (by omega) (by omega) (by omega)
  have hc : CB ⟨[atB r n, b], who, (zbc (zfS r (atB r n) b) (zac r (atB r n).toNat) (zac r b.toNat)).1⟩ := ⟨by simp, hw, hj⟩
  unfold zd0 zg0
  simp only [zc3 h.rb, Option.bind_some, zeO h.ok ha ha', zeO h.ok hb hb', zfX (show (za9 r (atB r n)).length ≤ 1000000 by omega), zfX (show (za9 r b).length ≤ 1000000 by omega), zgk h.rb (show r.Heads.length ≤ 100000 by omega), zbd ha ha', zbd hb hb', e1]
  cases zfW (za9 r (atB r n)) b with
  | true => exact ⟨rfl, h⟩
  | false =>
    cases zfW (za9 r b) (atB r n) with
    | true => exact ⟨rfl, h.head hn (zle h.ok ha hb hb')⟩
    | false =>
      simp only [cond_false]
      have hjoin := zhw e2 ta tb (zak e3) ta3 tb3 (by omega) (by omega) (by omega)
      unfold zac at hjoin hc ⊢
      rw [hjoin, Option.bind_some]
      cases decide (0 < ((zbc (zfS r (atB r n) b) (r.Commits.getD (atB r n).toNat noCommit).Tree (r.Commits.getD b.toNat noCommit).Tree).2.length : Int)) with
      | true => exact ⟨rfl, h⟩
      | false => exact ⟨zis h hn hc, zgo h hn hc⟩
def zhK (r : Repo) (n who : Str) (b : Int) : Bool := decide (atB r n < 0) || (!zaD who || !upB r.Commits.length b)
def zk5 (r : Repo) (n who : Str) (b : Int) : Repo × Int := bif zaa r then (bif zhK r n who b then (r, 1) else zg0 r n who b) else (zbt, 1)
theorem zfL {r : Repo} {n who : Str} {b : Int} (h : zhK r n who b = false) : 0 ≤ atB r n ∧ 0 ≤ b ∧ b ≤ (r.Commits.length : Int) - 1 := by
  unfold zhK upB at h
  simp only [Bool.or_eq_false_iff, decide_eq_false_iff_not, Bool.not_eq_false', Bool.and_eq_true, decide_eq_true_eq] at h
  omega
theorem zgp {r : Repo} (h : Gd q r) {n who : Str} {b : Int} (hn : n.length ≤ 1048576) (hw : who.length ≤ 1048576) : zbS r n who b = some (zk5 r n who b) ∧ Gd q (zk5 r n who b).1 := by
  unfold zbS zk5
  have hwm := zan hw
  rw [zcI h.rb, Option.bind_some, h.ok, Bool.not_true, cond_false, cond_true]
  simp only [jn, zc3 h.rb, Option.bind_some, zbf hwm, zeg, zeo (zan h.rb.coms), zcL h.rb, show (⟨r.Commits, r.Heads⟩ : Repo) = r from rfl]
  rw [show (decide ((0 : Int) ≤ b) && decide (b ≤ (r.Commits.length : Int) - 1)) = upB r.Commits.length b from rfl]
  have key : zhK r n who b = false → ((zd0 r n who b).bind fun z58 => some (z58.1, z58.2)) = some (zg0 r n who b) ∧ Gd q (zg0 r n who b).1 := fun hbad => by
    obtain ⟨p1, p2, p3⟩ := zfL hbad
    obtain ⟨q1, q2⟩ := zj8 h hn hw p1 p2 p3
    rw [q1]
    exact ⟨rfl, q2⟩
  unfold zhK at key ⊢
  cases h1 : decide (atB r n < 0) with
  | true => exact ⟨rfl, h⟩
  | false =>
    cases h2 : zaD who with
    | false => exact ⟨rfl, h⟩
    | true =>
      cases h3 : upB r.Commits.length b with
      | false => exact ⟨rfl, h⟩
      | true => exact key (by rw [h1, h2, h3]; rfl)
def zaH (r : Repo) (i : Nat) : List File := bif ((zaf r i).length : Int) == 0 then [] else zac r ((zaf r i).getD 0 0).toNat
theorem zdo {r : Repo} (h : Gd q r) {a : Int} (h0 : 0 ≤ a) (h1 : a ≤ (r.Commits.length : Int) - 1) : zbw r a = some (zaH r a.toNat) ∧ TB (zaH r a.toNat) ∧ zap (zaH r a.toNat) = true := by
  have hi : a.toNat < r.Commits.length := by omega
  obtain ⟨ps, pm⟩ := za0 h.ok hi
  unfold zbw zaH
  rw [zbd h0 h1, Option.bind_some]
  show (bif ((zaf r a.toNat).length : Int) == 0 then _ else _) = _ ∧ _
  cases hz : ((zaf r a.toNat).length : Int) == 0 with
  | true => exact ⟨rfl, zfZ.1, zfZ.2.1⟩
  | false =>
    have hne : ((zaf r a.toNat).length : Int) ≠ 0 := by simpa using hz
    have hlt : 0 < (zaf r a.toNat).length := by omega
    have hm : (zaf r a.toNat).getD 0 0 ∈ zaf r a.toNat := by
      rw [zcg (List.getElem?_eq_getElem hlt)]; exact List.getElem_mem hlt
    obtain ⟨q0, q1⟩ := pm _ hm
    have hg : gi (r.Commits.getD a.toNat noCommit).Parents 0 = some ((zaf r a.toNat).getD 0 0) := zhq (l := zaf r a.toNat) hlt
    rw [cond_false, cond_false, Option.bind_some, hg, Option.bind_some, zbd q0 (by omega), Option.bind_some]
    have := h.tree (i := ((zaf r a.toNat).getD 0 0).toNat) (by omega)
    exact ⟨rfl, this.1, this.2.1⟩
def zdf (r : Repo) (n who : Str) (o b : List File) : Repo × Int :=
  let j := zbc o (zac r (atB r n).toNat) b
  bif decide (0 < (j.2.length : Int)) then (r, 4) else zd3 r n ⟨[atB r n], who, j.1⟩
theorem zhW {r : Repo} (h : Gd q r) {n who : Str} {o b : List File} (hn : n.length ≤ 1048576) (hw : who.length ≤ 1048576) (ha : 0 ≤ atB r n) (to : TB o) (to2 : zap o = true) (tb : TB b) (tb2 : zap b = true) : zcF r n who o b = some (zdf r n who o b) ∧ Gd q (zdf r n who o b).1 := by
  have ha' : atB r n ≤ (r.Commits.length : Int) - 1 := by rcases at_range h.ok n with e | e <;> omega
  have hs := (zad h.ok).1
  obtain ⟨ta, ta2, ta3, ta4⟩ := h.tree (i := (atB r n).toNat) (by omega)
  have ho := zal to2
  have hb := zal tb2
  have hj := zfY to ta tb (zak to2) ta3 (zak tb2) (by omega) (by omega) (by omega)
  have hc : CB ⟨[atB r n], who, (zbc o (zac r (atB r n).toNat) b).1⟩ := ⟨by simp, hw, hj⟩
  have hjoin := zhw to ta tb (zak to2) ta3 (zak tb2) (by omega) (by omega) (by omega)
  unfold zcF zdf
  rw [zc3 h.rb, Option.bind_some, zbd ha ha', Option.bind_some]
  unfold zac at hjoin hc ⊢
  rw [hjoin, Option.bind_some]
  simp only
  cases decide (0 < ((zbc o (r.Commits.getD (atB r n).toNat noCommit).Tree b).2.length : Int)) with
  | true => exact ⟨rfl, h⟩
  | false => exact ⟨zis h hn hc, zgo h hn hc⟩
def zbV (r : Repo) (n who : Str) (b : Int) : Repo × Int := bif zaa r then (bif zhK r n who b then (r, 1) else zdf r n who (zaH r b.toNat) (zac r b.toNat)) else (zbt, 1)
def zcH (r : Repo) (n who : Str) (b : Int) : Repo × Int := bif zaa r then (bif zhK r n who b then (r, 1) else zdf r n who (zac r b.toNat) (zaH r b.toNat)) else (zbt, 1)
theorem zgB {r : Repo} (h : Gd q r) {n who : Str} {b : Int} (hn : n.length ≤ 1048576) (hw : who.length ≤ 1048576) : zci r n who b = some (zbV r n who b) ∧ Gd q (zbV r n who b).1 := by
  unfold zci zbV
  have hwm := zan hw
  rw [zcI h.rb, Option.bind_some, h.ok, Bool.not_true, cond_false, cond_true]
  simp only [jn, zc3 h.rb, Option.bind_some, zbf hwm, zeg, zeo (zan h.rb.coms), zcL h.rb, show (⟨r.Commits, r.Heads⟩ : Repo) = r from rfl]
  rw [show (decide ((0 : Int) ≤ b) && decide (b ≤ (r.Commits.length : Int) - 1)) = upB r.Commits.length b from rfl]
  have key : zhK r n who b = false → ((gi r.Commits b).bind fun u77 => (zbw r b).bind fun z82 => (zcF r n who z82 u77.Tree).bind fun z93 => some (z93.1, z93.2)) = some (zdf r n who (zaH r b.toNat) (zac r b.toNat)) ∧ Gd q (zdf r n who (zaH r b.toNat) (zac r b.toNat)).1 := fun hbad => by
    obtain ⟨p1, p2, p3⟩ := zfL hbad
    obtain ⟨q1, q2, q3⟩ := zdo h p2 p3
    obtain ⟨tb, tb2, tb3, tb4⟩ := h.tree (i := b.toNat) (by have := (zad h.ok).1; omega)
    obtain ⟨u1, u2⟩ := zhW h hn hw p1 q2 q3 tb tb2
    rw [zbd p2 p3, Option.bind_some, q1, Option.bind_some, show (r.Commits.getD b.toNat noCommit).Tree = zac r b.toNat from rfl, u1]
    exact ⟨rfl, u2⟩
  unfold zhK at key ⊢
  cases h1 : decide (atB r n < 0) with
  | true => exact ⟨rfl, h⟩
  | false =>
    cases h2 : zaD who with
    | false => exact ⟨rfl, h⟩
    | true =>
      cases h3 : upB r.Commits.length b with
      | false => exact ⟨rfl, h⟩
      | true => exact key (by rw [h1, h2, h3]; rfl)
theorem ze2 {r : Repo} (h : Gd q r) {n who : Str} {b : Int} (hn : n.length ≤ 1048576) (hw : who.length ≤ 1048576) : zbN r n who b = some (zcH r n who b) ∧ Gd q (zcH r n who b).1 := by
  unfold zbN zcH
  have hwm := zan hw
  rw [zcI h.rb, Option.bind_some, h.ok, Bool.not_true, cond_false, cond_true]
  simp only [jn, zc3 h.rb, Option.bind_some, zbf hwm, zeg, zeo (zan h.rb.coms), zcL h.rb, show (⟨r.Commits, r.Heads⟩ : Repo) = r from rfl]
  rw [show (decide ((0 : Int) ≤ b) && decide (b ≤ (r.Commits.length : Int) - 1)) = upB r.Commits.length b from rfl]
  have key : zhK r n who b = false → ((gi r.Commits b).bind fun u77 => (zbw r b).bind fun z82 => (zcF r n who u77.Tree z82).bind fun z93 => some (z93.1, z93.2)) = some (zdf r n who (zac r b.toNat) (zaH r b.toNat)) ∧ Gd q (zdf r n who (zac r b.toNat) (zaH r b.toNat)).1 := fun hbad => by
    obtain ⟨p1, p2, p3⟩ := zfL hbad
    obtain ⟨q1, q2, q3⟩ := zdo h p2 p3
    obtain ⟨tb, tb2, tb3, tb4⟩ := h.tree (i := b.toNat) (by have := (zad h.ok).1; omega)
    obtain ⟨u1, u2⟩ := zhW h hn hw p1 tb tb2 q2 q3
    rw [zbd p2 p3, Option.bind_some, q1, Option.bind_some, show (r.Commits.getD b.toNat noCommit).Tree = zac r b.toNat from rfl, u1]
    exact ⟨rfl, u2⟩
  unfold zhK at key ⊢
  cases h1 : decide (atB r n < 0) with
  | true => exact ⟨rfl, h⟩
  | false =>
    cases h2 : zaD who with
    | false => exact ⟨rfl, h⟩
    | true =>
      cases h3 : upB r.Commits.length b with
      | false => exact ⟨rfl, h⟩
      | true => exact key (by rw [h1, h2, h3]; rfl)
end Go.Vm
namespace Go.Vm
open Go Go.Sx
set_option linter.unusedSimpArgs false
set_option linter.unusedVariables false
def zhh (r : Repo) (o : Op) (z : List File × Bool) : Repo × Int := bif z.2 then (bif (zdI r o.Branch o.Who z.1).2 then ((zdI r o.Branch o.Who z.1).1, 0) else (r, 5)) else (r, 1)
theorem zit {r : Repo} (h : Good r) {n who : Str} {t : List File} (hn : n.length ≤ 1048576) (hw : who.length ≤ 1048576) (ht : TB t) : Good (zdI r n who t).1 := by
  unfold zdI
  rw [h.ok, cond_true]
  cases ho : zaa (zb9 r n (ze0 r n who t)) with
  | true => exact h.add hn (CB.next hw ht) ho
  | false => exact h
theorem zfe {r : Repo} (h : Good r) {o : Op} {z : List File × Bool} (hn : o.Branch.length ≤ 1048576) (hw : o.Who.length ≤ 1048576) (hz : TB z.1) : zbj r o z.1 z.2 = some (zhh r o z) ∧ Good (zhh r o z).1 := by
  unfold zbj zhh
  have hg := zit h hn hw hz
  rw [zgW h.rb hn hw hz, Option.bind_some]
  cases z.2 with
  | false => exact ⟨rfl, h⟩
  | true =>
    cases (zdI r o.Branch o.Who z.1).2 with
    | false => exact ⟨rfl, h⟩
    | true => exact ⟨rfl, hg⟩
def zdk (r : Repo) (n : Str) : List File := bif decide (0 ≤ atB r n) then zac r (atB r n).toNat else []
def znZ (r : Repo) (o : Op) : Repo × Int := bif (ze1 r o.To (atB r o.Branch)).2 then ((ze1 r o.To (atB r o.Branch)).1, 0) else (r, 1)
def doB (r : Repo) (o : Op) : Repo × Int :=
  bif o.Kind == 1 then zhh r o (zm1 (zdk r o.Branch) ⟨o.Path, o.Text⟩)
  else bif o.Kind == 2 then zhh r o (zno (zdk r o.Branch) o.Path)
  else bif o.Kind == 3 then zhh r o (zj7 (zdk r o.Branch) o.Path o.To)
  else bif o.Kind == 4 then znZ r o
  else bif o.Kind == 5 then zk5 r o.Branch o.Who (atB r o.To)
  else bif o.Kind == 6 then zbV r o.Branch o.Who o.At
  else zcH r o.Branch o.Who o.At
theorem zmf {t : List File} (h : TB t) (hs : t.length ≤ 8) {g : File} (hg : FB g) : TB (zm1 t g).1 := by
  unfold zm1
  cases zap t
  · exact TB.nil
  · cases zap (zgH g false t)
    · exact h
    · exact h.putF (by omega) hg
theorem zmO {t : List File} (h : TB t) (p : Str) : TB (zno t p).1 := by
  unfold zno
  cases zap t
  · exact TB.nil
  · exact h.dropF p
theorem zlD {t : List File} (h : TB t) (p to : Str) : TB (zj7 t p to).1 := by
  unfold zj7
  cases htr : zap t with
  | false => exact TB.nil
  | true =>
    rw [cond_true]
    cases he : ((((zbU p t).length : Int)) == (t.length : Int)) with
    | true => exact h
    | false =>
      cases hpt : zaM to with
      | false => exact h
      | true =>
        have hs := zal htr
        obtain ⟨e1, e2⟩ := zi5 h hs (fun f hf => zdj (zch htr hf)) (p := p) (zdj hpt) (K := fun _ _ => none) t.length 0 (t.length + 1) (zbU p t) (by omega) (by omega) (h.dropF p) (by have := List.length_filter_le (zlZ p) t; unfold zbU; omega)
        rw [List.drop_zero] at e2
        simp only [Bool.false_or, Bool.not_true, cond_false]
        cases (!zap (t.foldl (zey p to) (zbU p t)) || (((t.foldl (zey p to) (zbU p t)).length : Int) != (t.length : Int))) with
        | true => exact h
        | false => exact e2
theorem zlE {r : Repo} (h : Good r) {o : Op} (hf : OpFit o) (ho : opB o = true) : zhp r o = some (doB r o) ∧ Good (doB r o).1 := by
  obtain ⟨f0, f1, f2, f3, f4, f5, f6⟩ := hf.fit
  have hbw : zaD o.Branch = true ∧ zaD o.Who = true := by
    unfold opB at ho
    simp only [Bool.and_eq_true] at ho
    exact ⟨ho.1, ho.2.1⟩
  have hn := zbQ hbw.1
  have hw := zbQ hbw.2
  have hn' : o.Branch.length ≤ 1048576 := by omega
  have hw' : o.Who.length ≤ 1048576 := by omega
  have hst : TB (zdk r o.Branch) ∧ (zdk r o.Branch).length ≤ 8 := by
    unfold zdk
    cases hd : decide (0 ≤ atB r o.Branch) with
    | false => exact ⟨TB.nil, by simp⟩
    | true =>
      have h0 : 0 ≤ atB r o.Branch := by simpa using hd
      have ha' : atB r o.Branch ≤ (r.Commits.length : Int) - 1 := by rcases at_range h.ok o.Branch with e | e <;> omega
      have := h.tree (i := (atB r o.Branch).toNat) (by omega)
      exact ⟨this.1, this.2.2.2⟩
  have hfb : FB ⟨o.Path, o.Text⟩ := ⟨hf.path, zdE hf.text, f6⟩
  have hto : o.To.length ≤ 1048576 := hf.to
  obtain ⟨a1, a2⟩ := zfe h (z := zm1 (zdk r o.Branch) ⟨o.Path, o.Text⟩) hn' hw' (zmf hst.1 hst.2 hfb)
  obtain ⟨b1, b2⟩ := zfe h (z := zno (zdk r o.Branch) o.Path) hn' hw' (zmO hst.1 o.Path)
  obtain ⟨c1, c2⟩ := zfe h (z := zj7 (zdk r o.Branch) o.Path o.To) hn' hw' (zlD hst.1 o.Path o.To)
  obtain ⟨d1, d2⟩ := zgp h (n := o.Branch) (who := o.Who) (b := atB r o.To) hn' hw'
  obtain ⟨e1, e2⟩ := zgB h (n := o.Branch) (who := o.Who) (b := o.At) hn' hw'
  obtain ⟨g1, g2⟩ := ze2 h (n := o.Branch) (who := o.Who) (b := o.At) hn' hw'
  have hrest : ∀ t, t = zdk r o.Branch → (bif ((o.Kind : Int) == (1 : Int)) then
      ((Vm.zdW t (Vm.File.mk o.Path o.Text)).bind fun z41 => (Vm.zbj r o z41.1 z41.2).bind fun z53 => some (z53.1, z53.2))
    else (bif ((o.Kind : Int) == (2 : Int)) then
        ((Vm.zc5 t o.Path).bind fun z79 => (Vm.zbj r o z79.1 z79.2).bind fun z91 => some (z91.1, z91.2))
      else (bif ((o.Kind : Int) == (3 : Int)) then
          ((Vm.zc6 t o.Path o.To).bind fun z117 => (Vm.zbj r o z117.1 z117.2).bind fun z129 => some (z129.1, z129.2))
        else (bif ((o.Kind : Int) == (4 : Int)) then
            ((Vm.zbZ r o.To (atB r o.Branch)).bind fun z157 => bif (!z157.2) then (some (r, 1)) else (some (z157.1, 0)))
          else (bif ((o.Kind : Int) == (5 : Int)) then
              ((Vm.zea r o.To).bind fun z199 => (Vm.zbS r o.Branch o.Who z199).bind fun z208 => some (z208.1, z208.2))
            else (bif ((o.Kind : Int) == (6 : Int)) then
                ((Vm.zci r o.Branch o.Who o.At).bind fun z226 => some (z226.1, z226.2))
              else ((Vm.zbN r o.Branch o.Who o.At).bind fun z243 => some (z243.1, z243.2)))))))) = some (doB r o) ∧ Good (doB r o).1 := by
    intro t et
    subst et
    unfold doB
    cases o.Kind == 1 with
    | true => rw [cond_true, cond_true, zi4 hst.1 hfb, Option.bind_some, a1]; exact ⟨rfl, a2⟩
    | false =>
    cases o.Kind == 2 with
    | true => simp only [cond_true, cond_false]; rw [zii hst.1, Option.bind_some, b1]; exact ⟨rfl, b2⟩
    | false =>
    cases o.Kind == 3 with
    | true => simp only [cond_true, cond_false]; rw [ziq hst.1 _ _ hto, Option.bind_some, c1]; exact ⟨rfl, c2⟩
    | false =>
    cases o.Kind == 4 with
    | true =>
      simp only [cond_true, cond_false]
      rw [zgX h.rb hto, Option.bind_some]
      unfold znZ ze1
      rw [h.ok, cond_true]
      cases hb : (decide (0 ≤ atB r o.To) || !zaa (zb7 r o.To (atB r o.Branch))) with
      | true => exact ⟨rfl, h⟩
      | false =>
        refine ⟨rfl, h.head hto ?_⟩
        simp only [Bool.or_eq_false_iff, Bool.not_eq_false'] at hb
        exact hb.2
    | false =>
    cases o.Kind == 5 with
    | true => simp only [cond_true, cond_false]; rw [zc3 h.rb, Option.bind_some, d1]; exact ⟨rfl, d2⟩
    | false =>
    cases o.Kind == 6 with
    | true => simp only [cond_true, cond_false]; rw [e1]; exact ⟨rfl, e2⟩
    | false => simp only [cond_true, cond_false]; rw [g1]; exact ⟨rfl, g2⟩
  unfold zhp
  rw [zc3 h.rb, Option.bind_some]
  simp only [jn]
  cases hd : decide (0 ≤ atB r o.Branch) with
  | false =>
    refine hrest [] ?_
    unfold zdk
    rw [hd]; rfl
  | true =>
    have h0 : 0 ≤ atB r o.Branch := by simpa using hd
    have ha' : atB r o.Branch ≤ (r.Commits.length : Int) - 1 := by rcases at_range h.ok o.Branch with e | e <;> omega
    rw [cond_true, zbd h0 ha', Option.bind_some]
    refine hrest _ ?_
    unfold zdk
    rw [hd]; rfl
theorem zkX : Good zbt := ⟨⟨by simp [zbt], fun c hc => by simp [zbt] at hc, by simp [zbt], fun c hc => by simp [zbt] at hc⟩, rfl, fun _ h => absurd rfl h⟩
def OpL (o : Op) : Prop := Bk.fit o ∧ Bk.bulk o ≤ 1000000
theorem zi7 {l : List Op} (hl : l.length ≤ 1000) (ho : ∀ o ∈ l, OpL o) : ∀ (k i m : Nat) (r : Repo), i + k = l.length → k < m → Good r → ∃ r', Good r' ∧ zbD l (fun _ y12 y15 => some (Vm.Repo.mk y12 y15)) m (i : Int) r.Commits r.Heads = some r'
  | k, i, 0, r, _, hm, _ => by omega
  | 0, i, m + 1, r, hi, _, hg => by
    obtain rfl : i = l.length := by omega
    simp only [zbD, jn, zai, cond_false]
    exact ⟨r, hg, rfl⟩
  | k + 1, i, m + 1, r, hi, hm, hg => by
    have hlt : i < l.length := by omega
    have hx : l[i]? = some l[i] := List.getElem?_eq_getElem hlt
    obtain ⟨q1, q2⟩ := ho _ (List.getElem_mem hlt)
    have hof := OpFit.of q1 (by omega)
    simp only [zbD, jn, zaq hx, cond_true]
    cases decide ((i : Int) < 30) with
    | false => exact ⟨r, hg, rfl⟩
    | true =>
      rw [cond_true, zae hx, Option.bind_some, zlA hof, Option.bind_some, zag hlt (show l.length ≤ zam by unfold zam; omega)]
      cases hop : opB l[i] with
      | false => exact zi7 hl ho k (i + 1) m r (by omega) (by omega) hg
      | true =>
        obtain ⟨e1, e2⟩ := zlE hg hof hop
        rw [cond_true, Option.bind_some, show (⟨r.Commits, r.Heads⟩ : Repo) = r from rfl, e1, Option.bind_some]
        exact zi7 hl ho k (i + 1) m (doB r l[i]).1 (by omega) (by omega) e2
theorem ziu {l : List Op} (hl : l.length ≤ 1000) (ho : ∀ o ∈ l, OpL o) : ∃ r, Good r ∧ zeS l = some r := by
  unfold zeS
  simp only [jn]
  exact zi7 hl ho l.length 0 (l.length + 1) zbt (by omega) (by omega) zkX
section
variable {r : l30Rd} {p : Int}
theorem zeW {q k : Int} (h : zde r p) (hk : 0 ≤ k) (hq : p + k ≤ q) : zde ⟨r.b, r.p + k⟩ q := h.on k hk (by have := h.2.2; omega)
theorem ziv (h : zde r p) (hp : p ≤ 1000000000) : ∃ s, zd5 r = some (s, r.p + 1) ∧ s.length ≤ 10 := by
  unfold zd5
  obtain ⟨s, e, hm⟩ := zjd h (by omega) (l := [([109, 97, 105, 110] : Str), ([109, 97, 105, 110] : Str), ([115, 105, 100, 101] : Str), ([100, 101, 118] : Str)]) (by simp) (by simp)
  refine ⟨s, by rw [e]; rfl, ?_⟩
  simp only [List.mem_cons, List.not_mem_nil, or_false] at hm
  rcases hm with e | e | e | e <;> rw [e] <;> simp
theorem zkY (h : zde r p) (hp : p ≤ 1000000000) : ∃ s, zep r = some (s, r.p + 1) ∧ s.length ≤ 10 := by
  unfold zep
  obtain ⟨s, e, hm⟩ := zjd h (by omega) (l := [([97] : Str), ([98] : Str), ([100, 47, 101] : Str), ([100, 47, 102] : Str), ([103, 47, 104, 47, 105] : Str), ([103, 47, 107] : Str), ([122] : Str)]) (by simp) (by simp)
  refine ⟨s, by rw [e]; rfl, ?_⟩
  simp only [List.mem_cons, List.not_mem_nil, or_false] at hm
  rcases hm with e | e | e | e | e | e | e <;> rw [e] <;> simp
theorem zgq {k a : Int} {b w q t : Str} {l : List Str} (hk : 0 ≤ k ∧ k ≤ 100) (ha : 0 ≤ a ∧ a ≤ 100) (h1 : b.length ≤ 10) (h2 : w.length ≤ 10) (h3 : q.length ≤ 10) (h4 : t.length ≤ 10) (h5 : LB 8 l) : OpL ⟨k, b, w, q, t, a, l⟩ := by
  have hb := h5.bulk
  refine ⟨⟨?_, ?_, ?_, ?_, ?_, ?_, h5.fit (by omega)⟩, ?_⟩
  · show -9223372036854775808 ≤ k ∧ k ≤ 9223372036854775807; omega
  · show b.length ≤ zam; unfold zam; omega
  · show w.length ≤ zam; unfold zam; omega
  · show q.length ≤ zam; unfold zam; omega
  · show t.length ≤ zam; unfold zam; omega
  · show -9223372036854775808 ≤ a ∧ a ≤ 9223372036854775807; omega
  · show 0 + (b.length + (w.length + (q.length + (t.length + (0 + Bk.bulk l))))) ≤ _
    omega
theorem zhi : LB 8 ([] : List Str) := ⟨by simp, fun s hs => by simp at hs⟩
theorem zpX (h : zde r p) (hp : p ≤ 1000000) : ∃ o q, zhl r = some (o, q) ∧ OpL o ∧ zde ⟨r.b, q⟩ (p + 100) := by
  unfold zhl
  obtain ⟨b, e1, hb⟩ := ziv h (by omega)
  have h1 := zeW (q := p + 1) h (k := 1) (by omega) (by omega)
  obtain ⟨w, e2, hw⟩ := zjd h1 (by omega) (l := [([97, 110, 110] : Str), ([98, 111, 98] : Str), ([99, 105, 100] : Str)]) (by simp) (by simp)
  have hwl : w.length ≤ 10 := by
    simp only [List.mem_cons, List.not_mem_nil, or_false] at hw
    rcases hw with e | e | e <;> rw [e] <;> simp
  have h2 := zeW (q := p + 2) h1 (k := 1) (by omega) (by omega)
  obtain ⟨k, e3, k0, k1⟩ := zdF h2 (n := 12) (by omega) (by omega) (by omega)
  have h3 := zeW (q := p + 3) h2 (k := 1) (by omega) (by omega)
  rw [e1, Option.bind_some, e2, Option.bind_some]
  simp only [jn, e3, Option.bind_some]
  obtain ⟨pa, e4, hpa⟩ := zkY h3 (by omega)
  have h4 := zeW (q := p + 4) h3 (k := 1) (by omega) (by omega)
  obtain ⟨pb, e5, hpb⟩ := zkY h4 (by omega)
  have h5 := zeW (q := p + 5) h4 (k := 1) (by omega) (by omega)
  obtain ⟨fo, e6, hfo⟩ := zjd h3 (by omega) (l := [([115, 105, 100, 101] : Str), ([100, 101, 118] : Str), ([111, 108, 100] : Str)]) (by simp) (by simp)
  have hfl : fo.length ≤ 10 := by
    simp only [List.mem_cons, List.not_mem_nil, or_false] at hfo
    rcases hfo with e | e | e <;> rw [e] <;> simp
  obtain ⟨br, e7, hbr⟩ := ziv h3 (by omega)
  obtain ⟨n, e8, n0, n1⟩ := zdF h3 (n := 10) (by omega) (by omega) (by omega)
  obtain ⟨t, q, e9, ht, hq⟩ := zmJ h4 (by omega)
  simp only [e4, e5, e6, e7, e8, e9, Option.bind_some]
  have g4 : zde ⟨r.b, r.p + 1 + 1 + 1 + 1⟩ (p + 100) := zeW h3 (by omega) (by omega)
  have g5 : zde ⟨r.b, r.p + 1 + 1 + 1 + 1 + 1⟩ (p + 100) := zeW h4 (by omega) (by omega)
  have gq : zde ⟨r.b, q⟩ (p + 100) := ⟨hq.1, hq.2.1, by have := hq.2.2; show q ≤ _; have e : (⟨r.b, q⟩ : l30Rd).p = q := rfl; rw [e] at this; omega⟩
  cases k == 0 with
  | true => exact ⟨_, _, rfl, zgq (by omega) (by omega) hb hwl hpa (by simp) zhi, g4⟩
  | false =>
  cases k == 1 with
  | true => exact ⟨_, _, rfl, zgq (by omega) (by omega) hb hwl hpa hpb zhi, g5⟩
  | false =>
  have hfork := zgq (k := 4) (a := 0) (by omega) (by omega) hb hwl (q := []) (by simp) hfl zhi
  have huni := zgq (k := 5) (a := 0) (by omega) (by omega) hb hwl (q := []) (by simp) hbr zhi
  have hset := zgq (k := 1) (a := 0) (by omega) (by omega) hb hwl hpa (t := []) (by simp) ht
  cases k == 2 with
  | true => exact ⟨_, _, rfl, hfork, g4⟩
  | false =>
  cases k == 3 with
  | true => exact ⟨_, _, rfl, hfork, g4⟩
  | false =>
  cases k == 4 with
  | true => exact ⟨_, _, rfl, huni, g4⟩
  | false =>
  cases k == 5 with
  | true => exact ⟨_, _, rfl, huni, g4⟩
  | false =>
  cases k == 6 with
  | true => exact ⟨_, _, rfl, huni, g4⟩
  | false =>
  cases k == 7 with
  | true => exact ⟨_, _, rfl, zgq (by omega) (by omega) hb hwl (by simp) (by simp) zhi, g4⟩
  | false =>
  cases k == 8 with
  | true => exact ⟨_, _, rfl, zgq (by omega) (by omega) hb hwl (by simp) (by simp) zhi, g4⟩
  | false => exact ⟨_, _, rfl, hset, gq⟩
theorem zl7 {x0 : l30Rd} : ∀ (m : Nat) (out : List Op) (n q p : Int), 0 ≤ n → n < m → (∀ o ∈ out, OpL o) → zde ⟨x0.b, q⟩ p → p + 100 * n ≤ 1000000 → out.length + n ≤ 100 →
    ∃ l q', zej x0 (fun y15 _ y19 => some (y15, y19)) m out n q = some (l, q') ∧ (∀ o ∈ l, OpL o) ∧ l.length ≤ 100 ∧ zde ⟨x0.b, q'⟩ (p + 100 * n)
  | 0, out, n, q, p, h0, hm, _, _, _, _ => by omega
  | m + 1, out, n, q, p, h0, hm, ho, hr, hp, hl => by
    simp only [zej]
    by_cases hn : 0 < n
    · obtain ⟨o, q1, e1, o1, r1⟩ := zpX hr (by omega)
      rw [decide_eq_true hn, cond_true, e1, Option.bind_some, ap1 (show out.length ≤ 1048576 by omega), Option.bind_some, zah (by omega) (by omega)]
      obtain ⟨l, q', e2, l1, l2, r2⟩ := zl7 (x0 := x0) m (out ++ [o]) (n - 1) q1 (p + 100) (by omega) (by omega) (fun x hx => by
        rcases List.mem_append.1 hx with h1 | h1
        · exact ho x h1
        · rw [List.mem_singleton] at h1; rw [h1]; exact o1) r1 (by omega) (by simp; omega)
      exact ⟨l, q', e2, l1, l2, ⟨r2.1, r2.2.1, by have e : (⟨x0.b, q'⟩ : l30Rd).p ≤ p + 100 + 100 * (n - 1) := r2.2.2; show q' ≤ _; have e' : q' ≤ p + 100 + 100 * (n - 1) := e; omega⟩⟩
    · rw [decide_eq_false hn, cond_false]
      exact ⟨out, q, rfl, ho, by omega, ⟨hr.1, hr.2.1, by have e : q ≤ p := hr.2.2; show q ≤ _; omega⟩⟩
theorem zn0 (h : zde r p) (hp : p ≤ 100000) : ∃ l q, zgr r = some (l, q) ∧ (∀ o ∈ l, OpL o) ∧ l.length ≤ 100 ∧ zde ⟨r.b, q⟩ (p + 2001) := by
  unfold zgr
  obtain ⟨n, e, hm⟩ := zko h (by omega) (l := [0, 3, 8, 14, 20]) (by simp) (by simp)
  have hn : 0 ≤ n ∧ n ≤ 20 := by
    simp only [List.mem_cons, List.not_mem_nil, or_false] at hm
    omega
  have h1 := zeW (q := p + 1) h (k := 1) (by omega) (by omega)
  rw [e, Option.bind_some]
  simp only [jn]
  obtain ⟨l, q, e2, l1, l2, r2⟩ := zl7 (x0 := r) ((n - 0).toNat + 1) [] n (r.p + 1) (p + 1) hn.1 (by omega) (fun x hx => by simp at hx) h1 (by omega) (by simp; omega)
  exact ⟨l, q, e2, l1, l2, ⟨r2.1, r2.2.1, by have := r2.2.2; omega⟩⟩
theorem zmP (h : zde r p) (hp : p ≤ 100000) : ∃ x q, zfw r = some (x, q) ∧ Good x ∧ zde ⟨r.b, q⟩ (p + 2001) := by
  obtain ⟨l, q, e, l1, l2, r2⟩ := zn0 h hp
  obtain ⟨x, hx, e2⟩ := ziu (by omega) l1
  refine ⟨x, q, ?_, hx, r2⟩
  unfold zfw
  rw [e, Option.bind_some, e2, Option.bind_some, zcL hx.rb, Option.bind_some]
structure Drawn (r : Repo) : Prop where
  rb : RpB r
  coms : r.Commits.length ≤ 16
  heads : r.Heads.length ≤ 6
theorem Gd.drawn {r : Repo} (h : Gd True r) : Drawn r := by
  obtain ⟨s1, s2⟩ := zad h.ok
  exact ⟨h.rb, s1, by omega⟩
theorem zl8 {x : Repo} (h : RpB x) {i : Nat} {c : Commit} (hc : CB c) : RpB ⟨x.Commits.set i c, x.Heads⟩ :=
  ⟨by simp; exact h.coms, fun y hy => by
    rcases List.mem_or_eq_of_mem_set hy with h1 | h1
    · exact h.com y h1
    · rw [h1]; exact hc, h.heads, h.head⟩
theorem zjg (h : zde r p) (hp : p ≤ 100000) : ∃ x q, zds r = some (x, q) ∧ Drawn x ∧ zde ⟨r.b, q⟩ (p + 2010) := by
  obtain ⟨x, q, e, hg, r2⟩ := zmP h hp
  obtain ⟨s1, s2⟩ := zad hg.ok
  have hd := hg.drawn
  unfold zds
  rw [e, Option.bind_some]
  simp only [jn]
  have rq : zde ⟨r.b, q⟩ (p + 2010) := ⟨r2.1, r2.2.1, by have := r2.2.2; omega⟩
  cases hc : decide ((0 : Int) < (x.Commits.length : Int)) with
  | false => exact ⟨x, q, rfl, hd, rq⟩
  | true =>
    have h0 : (0 : Int) < (x.Commits.length : Int) := by simpa using hc
    obtain ⟨k, e3, k0, k1⟩ := zdF r2 (n := (x.Commits.length : Int)) (by omega) h0 (by omega)
    have r3 : zde ⟨r.b, q + 1⟩ (p + 2002) := zeW (q := p + 2002) r2 (k := 1) (by omega) (by omega)
    obtain ⟨z, e4, z0, z1⟩ := zdF r3 (n := 16) (by omega) (by omega) (by omega)
    have r4 : zde ⟨r.b, q + 1 + 1⟩ (p + 2010) := zeW (q := p + 2010) r3 (k := 1) (by omega) (by omega)
    obtain ⟨n, rfl⟩ := Int.eq_ofNat_of_zero_le k0
    have hn : n < x.Commits.length := by omega
    have hx : x.Commits[n]? = some x.Commits[n] := List.getElem?_eq_getElem hn
    have hcb := hg.rb.cat hx
    simp only at e3 e4
    simp only [cond_true, e3, e4, Option.bind_some]
    cases z == 0 with
    | true =>
      rw [cond_true, zae hx, Option.bind_some, zcQ hn, Option.bind_some]
      exact ⟨_, _, rfl, ⟨zl8 hg.rb ⟨by simp, hcb.who, hcb.tree⟩, by simp; exact s1, hd.heads⟩, r4⟩
    | false =>
    cases z == 1 with
    | true =>
      rw [cond_false, cond_true, zae hx, Option.bind_some, zcQ hn, Option.bind_some]
      exact ⟨_, _, rfl, ⟨zl8 hg.rb ⟨hcb.par, by simp, hcb.tree⟩, by simp; exact s1, hd.heads⟩, r4⟩
    | false =>
    cases z == 2 with
    | true =>
      have hne : x.Heads ≠ [] := hg.hd trivial (fun e => by rw [e] at hn; simp at hn)
      have hh : x.Heads[0]? = some (x.Heads[0]'(List.length_pos_iff.2 hne)) := List.getElem?_eq_getElem _
      rw [cond_false, cond_false, cond_true, show gi x.Heads 0 = some (x.Heads[0]'(List.length_pos_iff.2 hne)) from zae (i := 0) hh, Option.bind_some, ap1 hg.rb.heads, Option.bind_some]
      refine ⟨_, _, rfl, ⟨⟨hg.rb.coms, hg.rb.com, by simp; omega, fun y hy => ?_⟩, s1, by simp; omega⟩, r4⟩
      rcases List.mem_append.1 hy with h1 | h1
      · exact hg.rb.head y h1
      · rw [List.mem_singleton] at h1; rw [h1]; exact hg.rb.head _ (List.getElem_mem _)
    | false => exact ⟨x, _, rfl, hd, r4⟩
theorem zpp {code : List Byte} (h : code.length ≤ 1048576) : ∃ b : List Byte, zdx code = some ⟨b, 0⟩ ∧ zde ⟨b, 0⟩ 0 := by
  obtain ⟨b, e, hb⟩ := zmC h
  exact ⟨b, e, hb, by show (0 : Int) ≤ 0; omega, by show (0 : Int) ≤ 0; omega⟩
end
inductive Rc (r : Repo) : Nat → Nat → Prop
  | refl (a : Nat) : Rc r a a
  | step {a b : Nat} {p : Int} : Rc r a b → p ∈ zaf r b → Rc r a p.toNat
theorem Rc.trans {r : Repo} {a b c : Nat} (h : Rc r a b) (k : Rc r b c) : Rc r a c := by
  induction k with
  | refl => exact h
  | step _ hp ih => exact Rc.step ih hp
theorem Rc.head {r : Repo} {a c : Nat} (h : Rc r a c) : c = a ∨ ∃ p ∈ zaf r a, Rc r p.toNat c := by
  induction h with
  | refl => exact .inl rfl
  | @step b p hb hp ih =>
    rcases ih with e | ⟨q, hq, hc⟩
    · subst e
      exact .inr ⟨p, hp, Rc.refl _⟩
    · exact .inr ⟨q, hq, Rc.step hc hp⟩
theorem Rc.le {r : Repo} (hr : zaa r = true) {a c : Nat} (ha : a < r.Commits.length) (h : Rc r a c) : c ≤ a ∧ c < r.Commits.length := by
  induction h with
  | refl => exact ⟨Nat.le_refl _, ha⟩
  | step _ hp ih =>
    have := (za0 hr ih.2).2 _ hp
    omega
def zh2 (l : List Int) : Prop := l.Pairwise (· < ·)
theorem zh2.ext : ∀ {xs ys : List Int}, zh2 xs → zh2 ys → (∀ a, a ∈ xs ↔ a ∈ ys) → xs = ys
  | [], [], _, _, _ => rfl
  | [], y :: ys, _, _, h => by have := (h y).2 (by simp); simp at this
  | x :: xs, [], _, _, h => by have := (h x).1 (by simp); simp at this
  | x :: xs, y :: ys, hx, hy, h => by
    have hx' := List.pairwise_cons.1 hx
    have hy' := List.pairwise_cons.1 hy
    have e : x = y := by
      rcases List.mem_cons.1 ((h x).1 (by simp)) with e | hm
      · exact e
      · rcases List.mem_cons.1 ((h y).2 (by simp)) with e | hm2
        · exact e.symm
        · have h1 := hx'.1 y hm2
          have h2 := hy'.1 x hm
          omega
    subst e
    rw [zh2.ext hx'.2 hy'.2 (fun a => by
      constructor
      · intro ha
        rcases List.mem_cons.1 ((h a).1 (List.mem_cons_of_mem _ ha)) with e2 | e2
        · have := hx'.1 a ha; omega
        · exact e2
      · intro ha
        rcases List.mem_cons.1 ((h a).2 (List.mem_cons_of_mem _ ha)) with e2 | e2
        · have := hy'.1 a ha; omega
        · exact e2)]
theorem zlF (x y : File) : (x == y) = (x.Path == y.Path && x.Text == y.Text) := by
  apply zc2
  obtain ⟨a, b⟩ := x
  obtain ⟨a', b'⟩ := y
  simp
theorem zfT {a b : List File} (h : TB a) : zdL a b = some (a == b) := by
  have hm := h.maxi
  unfold zdL
  simp only [zgI, jn, zas]
  by_cases hn : a.length = b.length
  · rw [hn, beq_self_eq_true, Bool.not_true, cond_false, ← hn]
    rw [zfJ (α := File) (r0 := some false) (Z := some true) (f := fun m i => zcB a b (fun _ _ => some true) m false i) hn (fun m i x y hx hy => by
      simp only [zcB, jn, zaq hx, zae hx, zae hy, cond_true, Option.bind_some, zag (zav hx) hm, zjV (zan (h.at_ hx).len), zlF, bne]
      cases x.Path == y.Path <;> cases x.Text == y.Text <;> rfl) (fun m => by simp only [zcB, zai, cond_false]) (by omega)]
    cases a == b <;> rfl
  · rw [beq_false_of_ne hn, Bool.not_false, cond_true, beq_false_of_ne (fun e => hn (by rw [e]))]
theorem zjL {a b : List Int} (h : a.length ≤ 1048576) : zgz a b = some (a == b) := by
  have hm := zan h
  unfold zgz
  simp only [zgI, jn, zas]
  by_cases hn : a.length = b.length
  · rw [hn, beq_self_eq_true, Bool.not_true, cond_false, ← hn]
    rw [zfJ (α := Int) (r0 := some false) (Z := some true) (f := fun m i => zdz a b (fun _ _ => some true) m false i) hn (fun m i x y hx hy => by
      simp only [zdz, zaq hx, zae hx, zae hy, cond_true, Option.bind_some, zag (zav hx) hm, bne]
      cases x == y <;> rfl) (fun m => by simp only [zdz, zai, cond_false]) (by omega)]
    cases a == b <;> rfl
  · rw [beq_false_of_ne hn, Bool.not_false, cond_true, beq_false_of_ne (fun e => hn (by rw [e]))]
section
variable {r : l30Rd} {p : Int}
theorem zpY (h : zde r p) (hp : p ≤ 1000000) {n : Int} (hn : n < 1) : zaL r n = some (0, r.p + 1) := by
  obtain ⟨hb, h0, h1⟩ := h
  unfold zaL
  have e1 : w64 (r.p + 1) = r.p + 1 := zah (by omega) (by omega)
  simp only [jn, e1]
  rw [decide_eq_true hn, cond_true]
  rfl
theorem zkg (h : zde r p) (hp : p ≤ 200000) {x : Repo} (hx : Drawn x) : ∃ a, zgD r x = some (a, r.p + 1 + 1) ∧ -1 ≤ a ∧ a ≤ 16 := by
  have hc := hx.coms
  unfold zgD
  obtain ⟨k, e, k0, k1⟩ := zdF h (n := 14) (by omega) (by omega) (by omega)
  have h1 := zeW (q := p + 1) h (k := 1) (by omega) (by omega)
  rw [e, Option.bind_some]
  cases k == 0 with
  | true =>
    obtain ⟨a, e2, hm⟩ := zko h1 (by omega) (l := [(-1), (x.Commits.length : Int)]) (by simp) (by simp)
    simp only [cond_true, e2, Option.bind_some]
    refine ⟨a, rfl, ?_⟩
    simp only [List.mem_cons, List.not_mem_nil, or_false] at hm
    omega
  | false =>
    simp only [cond_false]
    by_cases h0 : 0 < x.Commits.length
    · obtain ⟨a, e2, a0, a1⟩ := zdF h1 (n := (x.Commits.length : Int)) (by omega) (by omega) (by omega)
      rw [e2, Option.bind_some]
      exact ⟨a, rfl, by omega, by omega⟩
    · rw [zpY h1 (by omega) (by omega), Option.bind_some]
      exact ⟨0, rfl, by omega, by omega⟩
end
def zhO (r : Repo) (a : Int) : List File × Bool := bif zaa r && upB r.Commits.length a then (zac r a.toNat, true) else ([], false)
theorem ziP {r : Repo} (h : RpB r) {a : Int} (ha : upB r.Commits.length a = true) : TB (zac r a.toNat) := by
  obtain ⟨a0, a1⟩ := zaz.1 ha
  have hx : r.Commits[a.toNat]? = some (r.Commits[a.toNat]'(by omega)) := List.getElem?_eq_getElem _
  unfold zac
  rw [zdG hx]
  exact (h.cat hx).tree
theorem zfr {r : Repo} (h : RpB r) (a : Int) : zdv r a = some (zhO r a) := by
  unfold zdv zhO
  simp only [jn, zbx h, zhV h, Option.bind_some]
  cases zaa r with
  | false => rfl
  | true =>
    cases ha : upB r.Commits.length a with
    | false => rfl
    | true =>
      obtain ⟨a0, a1⟩ := zaz.1 ha
      have ht := ziP h ha
      unfold zac at ht ⊢
      simp only [Bool.not_true, cond_false, Bool.and_true, cond_true]
      unfold zat
      rw [decide_eq_false (by omega), cond_false, zbd a0 a1, Option.bind_some, Option.bind_some, zdH ht]
      rfl
theorem zlM {r : Repo} (hr : zaa r = true) {a : Nat} (ha : a < r.Commits.length) : zbJ r (a : Int) = some (match zaf r a with | [] => -1 | p :: _ => p) := by
  have e : (r.Commits.getD a noCommit).Parents = zaf r a := rfl
  unfold zbJ
  simp only [zij ha, Option.bind_some, e]
  cases hp : zaf r a with
  | nil => rfl
  | cons p ps =>
    have hz : (((p :: ps).length : Int) == (0 : Int)) = false := by
      rw [beq_eq_false_iff_ne]
      simp only [List.length_cons]
      omega
    rw [hz, cond_false, show gi (p :: ps) 0 = some p from rfl, Option.bind_some]
theorem TB.of {t : List File} (hf : Bk.fit t) (h : Bk.bulk t ≤ 1048576) : TB t := ⟨zdE h, fun f hm => by
  have h1 : Bk.bulk f ≤ 1048576 := zhk h hm
  have h2 : Bk.bulk f = f.Path.length + Bk.bulk f.Text := rfl
  exact ⟨by omega, zdE (show Bk.bulk f.Text ≤ 1048576 by omega), (hf.2 f hm).2⟩⟩
theorem RpB.of {r : Repo} (hf : Bk.fit r) (h : Bk.bulk r ≤ 1048576) : RpB r := by
  have h0 : Bk.bulk r = Bk.bulk r.Commits + Bk.bulk r.Heads := rfl
  have hc : Bk.bulk r.Commits ≤ 1048576 := by omega
  have hh : Bk.bulk r.Heads ≤ 1048576 := by omega
  refine ⟨zdE hc, fun c hm => ?_, zdE hh, fun x hm => ?_⟩
  · have h1 : Bk.bulk c ≤ 1048576 := zhk hc hm
    have h2 : Bk.bulk c = Bk.bulk c.Parents + (c.Who.length + Bk.bulk c.Tree) := rfl
    exact ⟨zdE (show Bk.bulk c.Parents ≤ 1048576 by omega), by omega, TB.of (hf.1.2 c hm).2.2 (by omega)⟩
  · have h1 : Bk.bulk x ≤ 1048576 := zhk hh hm
    have h2 : Bk.bulk x = x.Name.length + 0 := rfl
    omega
theorem zi8 {r : Repo} (h : RpB r) : zbn r = some r := by
  have hm := zan h.coms
  have hl := h.coms
  unfold zbn
  simp only [jn, zas, apN h.heads, Option.bind_some]
  rw [zbX (xs := r.Commits) (p := fun _ => true) (g := fun f : Commit => f) (Z := fun acc => some (Repo.mk acc r.Heads)) (f := fun m acc i => zck r _ m i acc r.Heads) (fun m i x acc hx ha => by
    have hi := zav hx
    have hc := h.cat hx
    simp only [zck, zaq hx, zae hx, cond_true, Option.bind_some, zag hi hm, apN hc.par, zdH hc.tree, ap1 (show acc.length ≤ 1048576 by omega)]) (fun m acc => by simp only [zck, zai, cond_false]) (by omega)]
  rw [show ((r.Commits.filter fun _ => true).map fun f : Commit => f) = r.Commits by simp]
theorem ziQ (n : Str) (a : Int) : ∀ (A B : List Head), (∀ h ∈ A, h.Name < n) → (∀ h ∈ B, n < h.Name) → zed n a false (A ++ B) = A ++ [⟨n, a⟩] ++ B
  | [], [], _, _ => rfl
  | [], h :: B, _, hB => by
    have h1 := hB h (by simp)
    have h2 : Op.bytesLess h.Name n = false := by
      rw [zaR, decide_eq_false_iff_not]
      exact fun e => zaj _ (zaS e h1)
    have h3 : (h.Name != n) = true := by
      rw [bne_iff_ne]
      exact fun e => by rw [e] at h1; exact zaj _ h1
    show zed n a false (h :: B) = _
    unfold zed
    rw [h2, h3, Bool.not_false, Bool.and_true, Bool.false_or, cond_true, cond_true, zgP n a B fun x hx e => by
      have := hB x (by simp [hx])
      rw [e] at this
      exact zaj _ this]
    rfl
  | h :: A, B, hA, hB => by
    have h1 := hA h (by simp)
    have h2 : Op.bytesLess h.Name n = true := by rw [zaR]; simpa using h1
    have h3 : (h.Name != n) = true := by
      rw [bne_iff_ne]
      exact fun e => by rw [e] at h1; exact zaj _ h1
    show zed n a false (h :: (A ++ B)) = _
    unfold zed
    rw [h2, h3, Bool.not_true, Bool.and_false, Bool.or_false, cond_false, cond_true, ziQ n a A B (fun x hx => hA x (by simp [hx])) hB]
    rfl
def zhX (n : Str) (hs : List Head) : Nat → Nat
  | 0 => 0
  | k + 1 => bif Op.bytesLess n (hs.getD k zen).Name then zhX n hs k else k + 1
theorem zm3 {hs : List Head} (hl : hs.length ≤ 1048576) {x : Head} {K : Int → Option (List Head)} : ∀ (k m : Nat), k ≤ hs.length → k < m → zdl hs x K m (k : Int) = K (zhX x.Name hs k : Int)
  | k, 0, _, hm => by omega
  | 0, m + 1, _, _ => rfl
  | k + 1, m + 1, hk, hm => by
    have hx : hs[k]? = some hs[k] := List.getElem?_eq_getElem (by omega)
    have hw : w64 (((k + 1 : Nat) : Int) - 1) = (k : Int) := by rw [zah (by omega) (by omega)]; omega
    simp only [zdl, jn, hw, zae hx, Option.bind_some, zh0, Bool.not_not]
    rw [decide_eq_true (by omega), cond_true]
    unfold zhX
    rw [za8 hx]
    cases Op.bytesLess x.Name hs[k].Name with
    | true => rw [cond_true, cond_true, zm3 hl k m (by omega) (by omega)]
    | false => rfl
theorem ziR {n : Str} {hs : List Head} (hp : hs.Pairwise (fun x y => x.Name < y.Name)) (hno : ∀ h ∈ hs, h.Name ≠ n) : ∀ k, k ≤ hs.length → zhX n hs k ≤ k ∧ (∀ h ∈ hs.take (zhX n hs k), h.Name < n) ∧ ∀ i h, zhX n hs k ≤ i → i < k → hs[i]? = some h → n < h.Name
  | 0, _ => ⟨Nat.le_refl _, fun h hh => by simp [zhX] at hh, fun i h _ hi _ => by omega⟩
  | k + 1, hk => by
    have hx : hs[k]? = some hs[k] := List.getElem?_eq_getElem (by omega)
    unfold zhX
    rw [za8 hx]
    cases hb : Op.bytesLess n hs[k].Name with
    | true =>
      rw [cond_true]
      obtain ⟨h1, h2, h3⟩ := ziR hp hno k (by omega)
      refine ⟨by omega, h2, fun i h hi hik hh => ?_⟩
      rcases Nat.lt_or_ge i k with h4 | h4
      · exact h3 i h hi h4 hh
      · obtain rfl : i = k := by omega
        rw [hx] at hh
        cases hh
        rw [zaR] at hb
        simpa using hb
    | false =>
      rw [cond_false]
      have hlast : hs[k].Name < n := by
        rw [zaR] at hb
        exact zbv (zhE.1 (by simpa using hb)) (hno _ (List.getElem_mem _))
      refine ⟨Nat.le_refl _, fun h hh => ?_, fun i h h1 h2 _ => by omega⟩
      obtain ⟨i, hi⟩ := List.getElem?_of_mem hh
      rw [List.getElem?_take] at hi
      split at hi
      · rename_i hik
        obtain ⟨hlt, rfl⟩ := List.getElem?_eq_some_iff.1 hi
        rcases Nat.lt_or_ge i k with h4 | h4
        · exact zaS (List.pairwise_iff_getElem.1 hp i k hlt (by omega) h4) hlast
        · obtain rfl : i = k := by omega
          exact hlast
      · cases hi
theorem zi9 {hs : List Head} (hl : hs.length ≤ 1048576) {n : Str} {a : Int} (hp : hs.Pairwise (fun x y => x.Name < y.Name)) (hno : ∀ h ∈ hs, h.Name ≠ n) : zeA hs ⟨n, a⟩ = some (zed n a false hs) := by
  obtain ⟨h1, h2, h3⟩ := ziR hp hno hs.length (Nat.le_refl _)
  unfold zeA
  simp only [jn]
  rw [zm3 hl hs.length (hs.length + 1) (Nat.le_refl _) (by omega), apN hl, Option.bind_some]
  show (zaZ hs (zhX n hs hs.length : Int) ⟨n, a⟩).bind _ = _
  unfold zaZ
  rw [if_pos ⟨by omega, by omega, by unfold lim; omega⟩, Option.bind_some, Int.toNat_natCast]
  have := ziQ n a (hs.take (zhX n hs hs.length)) (hs.drop (zhX n hs hs.length)) h2 (fun h hh => by
    obtain ⟨i, hi⟩ := List.getElem?_of_mem hh
    rw [List.getElem?_drop] at hi
    exact h3 _ h (by omega) (List.getElem?_eq_some_iff.1 hi).1 hi)
  rw [List.take_append_drop] at this
  rw [this]
theorem zmQ {r : Repo} (h : RpB r) {n : Str} {a : Int} (hp : r.Heads.Pairwise (fun x y => x.Name < y.Name)) (hno : ∀ x ∈ r.Heads, x.Name ≠ n) : zbp r n a = some (zb7 r n a) := by
  have hm := zan h.heads
  unfold zbp
  simp only [jn, zas]
  rw [zcX (p := fun _ : Head => false) (xs := r.Heads) (r := fun _ => none) (Z := some (zb7 r n a)) (f := fun m k => zaV r n a _ m k [] [] r.Heads) (fun m i x hx => by
    have : (x.Name == n) = false := beq_false_of_ne (hno x (List.mem_of_getElem? hx))
    simp only [zaV, zaq hx, zae hx, cond_true, cond_false, Option.bind_some, zag (zav hx) hm, this]) (fun m => by
    simp only [zaV, zai, cond_false, zi9 h.heads hp hno, Option.bind_some]
    rfl) (by omega)]
  rw [show r.Heads.find? (fun _ => false) = none by simp]
theorem zmR {r y : Repo} (h : RpB r) (hy : RpB y) : zbK r y = some (bif zaa y then (y, true) else (r, false)) := by
  unfold zbK
  rw [show (⟨y.Commits, y.Heads⟩ : Repo) = y from rfl, zbx hy, Option.bind_some]
  cases zaa y with
  | true => rfl
  | false => rw [Bool.not_false, cond_true, cond_false, zi8 h]; rfl
theorem zjM {n : Str} {a : Int} : ∀ (hs : List Head) (j : Nat) (x : Head), hs.Pairwise (fun x y => x.Name < y.Name) → hs[j]? = some x → x.Name = n → hs.set j ⟨x.Name, a⟩ = hs.map (zd2 n a)
  | [], j, x, _, h, _ => by simp at h
  | h :: hs, 0, x, hp, e, hn => by
    obtain rfl : h = x := by simpa using e
    rw [List.set_cons_zero, List.map_cons]
    have ht : hs.map (zd2 n a) = hs := by
      conv => rhs; rw [← List.map_id hs]
      refine List.map_congr_left (fun y hy => ?_)
      have h1 := (List.pairwise_cons.1 hp).1 y hy
      unfold zd2
      rw [beq_false_of_ne (fun e2 => by rw [hn, e2] at h1; exact zaj _ h1)]
      rfl
    rw [ht]
    unfold zd2
    rw [hn, beq_self_eq_true]
    rfl
  | h :: hs, j + 1, x, hp, e, hn => by
    rw [List.getElem?_cons_succ] at e
    have h1 := (List.pairwise_cons.1 hp).1 x (List.mem_of_getElem? e)
    rw [List.set_cons_succ, List.map_cons, zjM hs j x (List.pairwise_cons.1 hp).2 e hn]
    congr 1
    unfold zd2
    rw [beq_false_of_ne (fun e2 => by rw [hn, e2] at h1; exact zaj _ h1)]
    rfl
theorem zkh {r : Repo} (h : RpB r) {n : Str} {a : Int} {K : Int → List Commit → List Head → List Head → Option Repo} (hp : r.Heads.Pairwise (fun x y => x.Name < y.Name)) (he : ∃ x ∈ r.Heads, x.Name = n) : ∀ (k i m : Nat), i + k = r.Heads.length → k < m → (∀ j x, j < i → r.Heads[j]? = some x → x.Name ≠ n) →
    zaV r n a K m (i : Int) [] [] r.Heads = some ⟨r.Commits, r.Heads.map (zd2 n a)⟩
  | k, i, 0, _, hm, _ => by omega
  | 0, i, m + 1, hi, _, hno => by
    obtain ⟨x, hx, e⟩ := he
    obtain ⟨j, hj⟩ := List.getElem?_of_mem hx
    exact absurd e (hno j x (by have := zav hj; omega) hj)
  | k + 1, i, m + 1, hi, hm, hno => by
    have hlt : i < r.Heads.length := by omega
    have hx : r.Heads[i]? = some r.Heads[i] := List.getElem?_eq_getElem hlt
    simp only [zaV, zaq hx, zae hx, cond_true, Option.bind_some, zag hlt (zan h.heads), zcQ hlt]
    cases hb : r.Heads[i].Name == n with
    | true => rw [cond_true, zjM r.Heads i _ hp hx (by simpa using hb)]
    | false =>
      rw [cond_false]
      exact zkh h hp he k (i + 1) m (by omega) (by omega) fun j x hj hjx => by
        rcases Nat.lt_or_ge j i with h1 | h1
        · exact hno j x h1 hjx
        · obtain rfl : j = i := by omega
          rw [hx] at hjx
          cases hjx
          exact fun e => by simp [e] at hb
theorem zlN {r : Repo} (h : RpB r) (hp : r.Heads.Pairwise (fun x y => x.Name < y.Name)) (n : Str) (a : Int) : zbp r n a = some (zb7 r n a) := by
  by_cases he : ∃ x ∈ r.Heads, x.Name = n
  · unfold zb7
    rw [zfE n a r.Heads hp he]
    unfold zbp
    simp only [jn, zas]
    exact zkh h hp he r.Heads.length 0 (r.Heads.length + 1) (by omega) (by omega) (fun j x hj => by omega)
  · exact zmQ h hp fun x hx e => he ⟨x, hx, e⟩
theorem zgR {n : Nat} {hs : List Head} : zcD n hs = true ↔ (∀ h ∈ hs, zaD h.Name = true ∧ upB n h.At = true) ∧ hs.Pairwise (fun x y => x.Name < y.Name) ∧ hs.length ≤ 5 := by
  unfold zcD
  rw [Bool.and_eq_true, decide_eq_true_eq, zaX]
  constructor
  · rintro ⟨hg, hl⟩
    refine ⟨fun h hm => ?_, ?_, by omega⟩
    · obtain ⟨i, hi⟩ := List.getElem?_of_mem hm
      have hlt := (List.getElem?_eq_some_iff.1 hi).1
      have := hg i (by omega) (by omega)
      unfold zfl at this
      rw [za8 hi] at this
      simp only [Bool.and_eq_true] at this
      exact ⟨this.1, this.2.1⟩
    · have step : ∀ i, (hi : i + 1 < hs.length) → (hs[i]'(by omega)).Name < hs[i + 1].Name := fun i hi => by
        have := hg (i + 1) (by omega) (by omega)
        unfold zfl at this
        rw [za8 (List.getElem?_eq_getElem hi), decide_eq_true (by omega), Nat.add_sub_cancel, za8 (List.getElem?_eq_getElem (show i < hs.length by omega))] at this
        simp only [cond_true, Bool.and_eq_true, zaR, decide_eq_true_eq] at this
        exact this.2.2
      refine List.pairwise_iff_getElem.2 fun i j hi hj hij => ?_
      induction j with
      | zero => omega
      | succ j ih =>
        rcases Nat.lt_or_ge i j with h1 | h1
        · exact zaS (ih (by omega) h1) (step j hj)
        · have : i = j := by omega
          subst this
          exact step i hj
  · rintro ⟨h1, h2, h3⟩
    refine ⟨fun i h0 hi => ?_, by omega⟩
    have hx : hs[i]? = some (hs[i]'(by omega)) := List.getElem?_eq_getElem (by omega)
    have hm := List.mem_of_getElem? hx
    unfold zfl
    rw [za8 hx, (h1 _ hm).1, (h1 _ hm).2, Bool.true_and, Bool.true_and]
    by_cases hz : 0 < (i : Int)
    · have hp : hs[i - 1]? = some (hs[i - 1]'(by omega)) := List.getElem?_eq_getElem (by omega)
      rw [decide_eq_true hz, cond_true, za8 hp, zaR]
      simpa using List.pairwise_iff_getElem.1 h2 (i - 1) i (by omega) (by omega) (by omega)
    · rw [decide_eq_false hz]
      rfl
theorem ziw {r : Repo} : zaa r = true ↔ (r.Commits.length ≤ 16 ∧ zkq r.Commits = true) ∧ zcD r.Commits.length r.Heads = true := by
  unfold zaa
  simp only [Bool.and_eq_true, decide_eq_true_eq]
  constructor
  · rintro ⟨h1, h2, h3⟩; exact ⟨⟨by omega, h2⟩, h3⟩
  · rintro ⟨⟨h1, h2⟩, h3⟩; exact ⟨by omega, h2, h3⟩
theorem zlk {r : Repo} (hr : zaa r = true) {x : Head} (hx : x ∈ r.Heads) : atB r x.Name = x.At ∧ 0 ≤ x.At ∧ x.At ≤ (r.Commits.length : Int) - 1 := by
  have hh := zgR.1 (ziw.1 hr).2
  have hu := zaz.1 (hh.1 x hx).2
  refine ⟨?_, hu⟩
  unfold atB
  cases hf : r.Heads.find? (fun h => h.Name == x.Name) with
  | none => exact absurd (List.find?_eq_none.1 hf x hx) (by simp)
  | some y =>
    have hy := List.mem_of_find?_eq_some hf
    have hn : y.Name = x.Name := by simpa using List.find?_some hf
    obtain ⟨i, hi, rfl⟩ := List.getElem_of_mem hx
    obtain ⟨j, hj, rfl⟩ := List.getElem_of_mem hy
    have hp := List.pairwise_iff_getElem.1 hh.2.1
    rcases Nat.lt_trichotomy i j with h1 | h1 | h1
    · have := hp i j hi hj h1
      rw [hn] at this
      exact absurd this (zaj _)
    · subst h1; rfl
    · have := hp j i hj hi h1
      rw [hn] at this
      exact absurd this (zaj _)
theorem zll (n : Str) (a : Int) : ∀ hs : List Head, (⟨n, a⟩ : Head) ∈ zed n a false hs
  | [] => by simp [zed]
  | h :: hs => by
    unfold zed
    cases Op.bytesLess h.Name n with
    | true =>
      rw [Bool.not_true, Bool.and_false, Bool.or_false]
      exact List.mem_append_right _ (List.mem_append_right _ (zll n a hs))
    | false => simp
theorem zlG {r : Repo} {n : Str} {a : Int} (h : zaa (zb7 r n a) = true) : atB (zb7 r n a) n = a := (zlk h (zll n a r.Heads)).1
theorem znH (x y : Commit) : (x == y) = (x.Who == y.Who && (x.Parents == y.Parents && x.Tree == y.Tree)) := by
  apply zc2
  obtain ⟨a, b, c⟩ := x
  obtain ⟨a', b', c'⟩ := y
  simp only [beq_iff_eq, Bool.and_eq_true, Commit.mk.injEq]
  constructor
  · rintro ⟨h1, h2, h3⟩; exact ⟨h2, h1, h3⟩
  · rintro ⟨h2, h1, h3⟩; exact ⟨h1, h2, h3⟩
theorem zmS (x y : Head) : (x == y) = (x.Name == y.Name && x.At == y.At) := by
  apply zc2
  obtain ⟨a, b⟩ := x
  obtain ⟨a', b'⟩ := y
  simp
theorem znI (x y : Repo) : (x == y) = (x.Commits == y.Commits && x.Heads == y.Heads) := by
  apply zc2
  obtain ⟨a, b⟩ := x
  obtain ⟨a', b'⟩ := y
  simp
theorem ziE {a b : Commit} (h : CB a) : zfg a b = some (a == b) := by
  unfold zfg
  simp only [jn, zjL h.par, zfT h.tree, Option.bind_some, znH]
  cases a.Who == b.Who with
  | false => rfl
  | true => cases a.Parents == b.Parents <;> rfl
theorem zg1 {a b : Repo} (h : RpB a) : zew a b = some (a == b) := by
  have hc := zan h.coms
  have hh := zan h.heads
  rw [znI]
  unfold zew
  simp only [zgI, jn, zas]
  by_cases h1 : a.Commits.length = b.Commits.length
  case neg => 
    rw [beq_false_of_ne h1, Bool.not_false, cond_true, cond_true, beq_false_of_ne (fun e => h1 (by rw [e]))]
    rfl
  by_cases h2 : a.Heads.length = b.Heads.length
  case neg =>
    have q : (a.Heads == b.Heads) = false := beq_false_of_ne fun e => h2 (by rw [e])
    rw [beq_false_of_ne h2, q, show (a.Commits.length == b.Commits.length) = true by rw [h1]; exact beq_self_eq_true _, Bool.and_false]
    rfl
  rw [show (a.Commits.length == b.Commits.length) = true by rw [h1]; exact beq_self_eq_true _, show (a.Heads.length == b.Heads.length) = true by rw [h2]; exact beq_self_eq_true _]
  simp only [Bool.not_true, cond_false]
  rw [zfJ (α := Commit) (r0 := some false) (Z := bif a.Heads == b.Heads then some true else some false) (f := fun m i => zdB a b _ m false i) h1 (fun m i x y hx hy => by
    simp only [zdB, zaq hx, zae hx, zae hy, cond_true, Option.bind_some, zag (zav hx) hc, ziE (h.cat hx)]
    cases x == y <;> rfl) (fun m => by
    simp only [zdB, zai, cond_false]
    exact zfJ (α := Head) (r0 := some false) (Z := some true) (f := fun m i => zdA a b (fun _ _ => some true) m false i) h2 (fun m i x y hx hy => by
      simp only [zdA, zaq hx, zae hx, zae hy, cond_true, Option.bind_some, zag (zav hx) hh, zmS]
      cases (x.Name == y.Name && x.At == y.At) <;> rfl) (fun m => by simp only [zdA, zai, cond_false]) (by omega)) (by omega)]
  cases a.Commits == b.Commits <;> cases a.Heads == b.Heads <;> rfl
theorem zlJ {a b : Repo} (h : RpB b) (hp : b.Commits <+: a.Commits) : ze7 a b = some true := by
  have hc := zan h.coms
  have hl := hp.length_le
  unfold ze7
  rw [decide_eq_false (by omega), cond_false]
  simp only [jn, zas]
  rw [zcW (n := b.Commits.length) (g := fun _ => true) (r0 := some false) (Z := some true) (f := fun m i => zei a b (fun _ _ => some true) m false i) (fun m i hi => by
    have hx : b.Commits[i]? = some b.Commits[i] := List.getElem?_eq_getElem hi
    have hy : a.Commits[i]? = some b.Commits[i] := by
      obtain ⟨t, ht⟩ := hp
      rw [← ht, List.getElem?_append_left hi, hx]
    simp only [zei, zaq hx, zae hx, zae hy, cond_true, Option.bind_some, zag hi hc, ziE (h.cat hx), beq_self_eq_true, Bool.not_true, cond_false]) (fun m => by simp only [zei, zai, cond_false]) _ (by omega), zaX.2 (fun _ _ _ => rfl), cond_true]
theorem zeY (x : Repo) : (⟨x.Commits, x.Heads⟩ : Repo) = x := rfl
theorem zk8 {r : Repo} (h : RpB r) (hl : r.Commits.length ≤ 100000) (hp : r.Heads.Pairwise (fun x y => x.Name < y.Name)) {n who : Str} {t : List File} {ps : List Int} (ht : TB t) (hw : who.length ≤ 1048576) (hps : ps.length ≤ 1048576) :
    zbs r n who t ps = some (zb9 r n ⟨ps, who, t⟩) := by
  have hc : CB ⟨ps, who, t⟩ := ⟨hps, hw, ht⟩
  unfold zbs
  rw [zdH ht, Option.bind_some, ap1 h.coms, Option.bind_some]
  have e : w64 (((r.Commits ++ [Commit.mk ps who t]).length : Int) - 1) = (r.Commits.length : Int) := by rw [zah (by omega) (by simp; omega)]; simp
  rw [e, zlN (h.push hc hl) hp, Option.bind_some]
  rfl
def zlm (p : Int) : Prop := -9223372036854775808 ≤ p ∧ p ≤ 9223372036854775807
section
variable {r : Repo} {has : List Int} {sent : List Commit}
end
set_option linter.unusedSectionVars false
structure SentB (sent : List Commit) : Prop where
  len : sent.length ≤ 16
  cb : ∀ c ∈ sent, CB c
  fit : ∀ c ∈ sent, ∀ p ∈ c.Parents, zlm p
theorem SentB.take {sent : List Commit} (h : SentB sent) (k : Nat) : SentB (sent.take k) :=
  ⟨Nat.le_trans (List.length_take_le' k sent) h.len, fun c hc => h.cb c (List.mem_of_mem_take hc), fun c hc => h.fit c (List.mem_of_mem_take hc)⟩
theorem SentB.set {sent : List Commit} (h : SentB sent) {c : Commit} (hc : CB c) (hf : ∀ p ∈ c.Parents, zlm p) (k : Nat) : SentB (sent.set k c) :=
  ⟨by rw [List.length_set]; exact h.len, fun d hd => by
    rcases List.mem_or_eq_of_mem_set hd with q | q
    · exact h.cb d q
    · rw [q]; exact hc, fun d hd => by
    rcases List.mem_or_eq_of_mem_set hd with q | q
    · exact h.fit d q
    · rw [q]; exact hf⟩
section
variable {x : Repo} (hr : zaa x = true) {a b : Int} (ha : upB x.Commits.length a = true) (hb : upB x.Commits.length b = true)
include hr ha
include hb
end
end Go.Vm
