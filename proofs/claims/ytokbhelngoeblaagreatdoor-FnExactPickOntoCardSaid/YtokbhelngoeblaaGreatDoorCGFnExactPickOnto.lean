/- Plain law FnExactPickOnto, and what it uses: what the models answer. Conditions: each law's own premises. -/
import Derived.Test.YtokbhelngoeblaaGreatDoorCM0
import Derived.Test.YtokbhelngoeblaaGreatDoorCM1
import Derived.Test.YtokbhelngoeblaaGreatDoorCM2
import Derived.Test.YtokbhelngoeblaaGreatDoorCM4
import Derived.Test.YtokbhelngoeblaaGreatDoorCM5
import Derived.Test.YtokbhelngoeblaaGreatDoorCM8
import Derived.Test.YtokbhelngoeblaaGreatDoorCLw
import Derived.Sort.Walk0
import Derived.Lib.SplitLaws
import Derived.Test.YtokbhelngoeblaaGreatDoorCX
import Derived.Lib.Join
namespace Go.Vm
open Go Go.Sx
set_option linter.unusedSimpArgs false
set_option linter.unusedVariables false
def chB (c : UInt8) : Bool := !(decide ((c.toNat : Int) < 32) || decide (126 < (c.toNat : Int)))
def zcP (s : Str) : Bool := !decide (12 < (s.length : Int)) && s.all chB
def zav (xs : List Str) : Bool := !decide (10 < (xs.length : Int)) && xs.all zcP
theorem zml (a b : Int) : decide (a ≤ b) = !decide (b < a) := by
  by_cases h : a ≤ b
  · rw [decide_eq_true h, decide_eq_false (by omega)]; rfl
  · rw [decide_eq_false h, decide_eq_true (by omega)]; rfl
theorem zmm {s : Str} (h : s.length ≤ maxi) : zgf s = some (zcP s) := by
  unfold zgf zcP
  simp only [jn, zal]
  cases decide ((12 : Int) < (s.length : Int))
  case true => rfl
  rw [cond_false, za3 (α := UInt8) (xs := s) (p := chB) (r0 := some false) (Z := some true) (f := fun m i => zcx s (fun _ _ => some true) m false i) (fun m i x hx => by
    simp only [zcx, jn, zak hx, zic hx, cond_true, Option.bind_some, zab (zas hx) h, chB]
    cases decide ((x.toNat : Int) < 32) <;> cases decide (126 < (x.toNat : Int)) <;> rfl) (fun m => by simp only [zcx, zac, cond_false]) (by omega)]
  cases s.all chB <;> rfl
theorem zmn {s : Str} (h : s.length ≤ maxi) : zge s = some (zcP s) := by
  unfold zge zcP
  simp only [jn, zal, zml]
  rw [za3 (α := UInt8) (xs := s) (p := chB) (r0 := some false) (Z := some (!decide (12 < (s.length : Int)))) (f := fun m i => zcu s (fun _ _ => some (!decide (12 < (s.length : Int)))) m false i) (fun m i x hx => by
    simp only [zcu, jn, zak hx, zic hx, cond_true, Option.bind_some, zab (zas hx) h, chB]
    cases decide ((x.toNat : Int) < 32) <;> cases decide (126 < (x.toNat : Int)) <;> rfl) (fun m => by simp only [zcu, zac, cond_false]) (by omega)]
  cases s.all chB <;> cases decide (12 < (s.length : Int)) <;> rfl
theorem zfr {xs : List Str} (h : Bk.fit xs) : zcn xs = some (zav xs) := by
  have hl := zcI h
  unfold zcn zav
  simp only [jn, zal]
  cases decide ((10 : Int) < (xs.length : Int))
  case true => rfl
  rw [cond_false, za3 (α := Str) (xs := xs) (p := zcP) (r0 := some false) (Z := some true) (f := fun m i => zcy xs (fun _ _ => some true) m false i) (fun m i x hx => by
    have hx2 : x.length ≤ maxi := zgH h hx
    simp only [zcy, zak hx, zad hx, cond_true, Option.bind_some, zab (zas hx) hl, zmm hx2]
    cases zcP x <;> rfl) (fun m => by simp only [zcy, zac, cond_false]) (by omega)]
  cases xs.all zcP <;> rfl
theorem zgI {xs : List Str} (h : Bk.fit xs) : zdm xs = some (zav xs) := by
  have hl := zcI h
  unfold zdm zav
  simp only [jn, zal, zml]
  rw [za3 (α := Str) (xs := xs) (p := zcP) (r0 := some false) (Z := some (!decide (10 < (xs.length : Int)))) (f := fun m i => zdG xs (fun _ _ => some (!decide (10 < (xs.length : Int)))) m false i) (fun m i x hx => by
    have hx2 : x.length ≤ maxi := zgH h hx
    simp only [zdG, zak hx, zad hx, cond_true, Option.bind_some, zab (zas hx) hl, zmn hx2]
    cases zcP x <;> rfl) (fun m => by simp only [zdG, zac, cond_false]) (by omega)]
  cases xs.all zcP <;> cases decide (10 < (xs.length : Int)) <;> rfl
theorem zam {t : List Str} (h : zav t = true) : t.length ≤ 10 := by
  unfold zav at h
  simp only [Bool.and_eq_true, Bool.not_eq_true', decide_eq_false_iff_not] at h
  omega
theorem zaS {t : List Str} (h : zav t = true) : ∀ s ∈ t, zcP s = true := by
  unfold zav at h
  simp only [Bool.and_eq_true, List.all_eq_true] at h
  exact h.2
theorem zil {s : Str} (h : zcP s = true) : s.length ≤ 12 := by
  unfold zcP at h
  simp only [Bool.and_eq_true, Bool.not_eq_true', decide_eq_false_iff_not] at h
  omega
theorem zn8 {a b c : List Str} (ha : Bk.fit a) (hb : Bk.fit b) (hc : Bk.fit c) : zhh a b c = some (zav a && (zav b && zav c)) := by
  unfold zhh
  simp only [jn, zfr ha, zfr hb, zfr hc, Option.bind_some]
  cases zav a <;> cases zav b <;> rfl
theorem zex {xs ys : List Str} (h : xs.length ≤ maxi) : zaH xs ys = some (xs == ys) := by
  unfold zaH
  simp only [zj6, jn, zal]
  by_cases hn : xs.length = ys.length
  · rw [hn, beq_self_eq_true, Bool.not_true, cond_false, ← hn]
    rw [zj5 (α := Str) (r0 := some false) (Z := some true) (f := fun m i => zaA xs ys (fun _ _ => some true) m false i) hn (fun m i x y hx hy => by
      simp only [zaA, zak hx, zad hx, zad hy, cond_true, Option.bind_some, zab (zas hx) h, bne]
      cases x == y <;> rfl) (fun m => by simp only [zaA, zac, cond_false]) (by omega)]
    cases xs == ys <;> rfl
  · rw [beq_false_of_ne hn, Bool.not_false, cond_true, beq_false_of_ne (fun e => hn (by rw [e]))]
theorem zey {xs ys : List Str} (h : xs.length ≤ maxi) : zd3 xs ys = some (xs == ys) := by
  unfold zd3
  simp only [zj6, jn, zal]
  by_cases hn : xs.length = ys.length
  · rw [hn, beq_self_eq_true, Bool.not_true, cond_false, ← hn]
    rw [zj5 (α := Str) (r0 := some false) (Z := some true) (f := fun m i => zcv xs ys (fun _ _ => some true) m false i) hn (fun m i x y hx hy => by
      simp only [zcv, zak hx, zad hx, zad hy, cond_true, Option.bind_some, zab (zas hx) h, bne]
      cases x == y <;> rfl) (fun m => by simp only [zcv, zac, cond_false]) (by omega)]
    cases xs == ys <;> rfl
  · rw [beq_false_of_ne hn, Bool.not_false, cond_true, beq_false_of_ne (fun e => hn (by rw [e]))]
theorem zaW {x : List Str} (h : x.length ≤ 1048576) : zcc x = some x := by
  unfold zcc
  rw [apN h]; rfl
def zg0 (r : l30Rd) (p : Int) : Prop := r.b.length ≤ 2000 ∧ 0 ≤ r.p ∧ r.p ≤ p
theorem zg0.on {r : l30Rd} {p q : Int} (h : zg0 r p) (k : Int) (hk : 0 ≤ k) (hq : r.p + k ≤ q) : zg0 ⟨r.b, r.p + k⟩ q := ⟨h.1, by have := h.2.1; show 0 ≤ r.p + k; omega, hq⟩
def zfs : List Str → List Str → Int
  | [], _ => 0
  | _ :: _, [] => 0
  | x :: xs, y :: ys => if x == y then zfs xs ys + 1 else zrb (zfs xs (y :: ys)) (zfs (x :: xs) ys)
termination_by a b => a.length + b.length
theorem zkB (b : List Str) : zfs [] b = 0 := by rw [zfs]
theorem ziY (a : List Str) : zfs a [] = 0 := by cases a <;> rw [zfs]
theorem ziZ (x y : Str) (xs ys : List Str) : zfs (x :: xs) (y :: ys) = if x == y then zfs xs ys + 1 else zrb (zfs xs (y :: ys)) (zfs (x :: xs) ys) := by rw [zfs]
theorem zcJ : ∀ (n : Nat) (a b : List Str), a.length + b.length ≤ n → 0 ≤ zfs a b ∧ zfs a b ≤ a.length
  | _, [], b, _ => by rw [zkB]; simp
  | _, x :: xs, [], _ => by rw [ziY]; simp; omega
  | 0, x :: xs, y :: ys, h => by simp at h
  | n + 1, x :: xs, y :: ys, h => by
    simp only [List.length_cons] at h
    have h1 := zcJ n xs ys (by omega)
    have h2 := zcJ n xs (y :: ys) (by simp; omega)
    have h3 := zcJ n (x :: xs) ys (by simp; omega)
    rw [ziZ]
    simp only [List.length_cons] at *
    split
    · omega
    · unfold zrb; split <;> omega
theorem zpi (a b : List Str) : 0 ≤ zfs a b := (zcJ _ a b (Nat.le_refl _)).1
theorem zpj (a b : List Str) : zfs a b ≤ a.length := (zcJ _ a b (Nat.le_refl _)).2
def zfL (n : Nat) (g : Nat → Int) : List Int := (List.range n).map g
def zes (n m : Nat) (f : Nat → Nat → Int) : List (List Int) := (List.range n).map fun i => zfL m (f i)
theorem zls {n : Nat} {g g' : Nat → Int} (h : ∀ k, k < n → g k = g' k) : zfL n g = zfL n g' := by
  unfold zfL
  exact List.map_congr_left fun k hk => h k (List.mem_range.1 hk)
theorem zdO {n m : Nat} {f f' : Nat → Nat → Int} (h : ∀ i k, i < n → k < m → f i k = f' i k) : zes n m f = zes n m f' := by
  unfold zes
  exact List.map_congr_left fun i hi => zls fun k hk => h i k (List.mem_range.1 hi) hk
theorem zf1 {n k : Nat} {g : Nat → Int} (h : k < n) : gi (zfL n g) (k : Int) = some (g k) := zad (by simp [zfL, h])
theorem zf2 {n m i : Nat} {f : Nat → Nat → Int} (h : i < n) : gi (zes n m f) (i : Int) = some (zfL m (f i)) := zad (by simp [zes, h])
theorem zkC {n k : Nat} {g : Nat → Int} {v : Int} (h : k < n) : siM (zfL n g) (k : Int) v = some (zfL n fun k' => if k' = k then v else g k') := by
  rw [zbD (by simp [zfL, h])]
  congr 1
  apply List.ext_getElem?
  intro j
  unfold zfL
  by_cases hj : j = k
  · subst hj
    rw [List.getElem?_set_self (by simp [h])]
    simp [h]
  · rw [List.getElem?_set_ne (Ne.symm hj)]
    by_cases hl : j < n
    · simp [hl, hj]
    · rw [List.getElem?_eq_none (by simp; omega), List.getElem?_eq_none (by simp; omega)]
theorem zkD {n m i : Nat} {f : Nat → Nat → Int} {g : Nat → Int} (h : i < n) : siM (zes n m f) (i : Int) (zfL m g) = some (zes n m fun i' => if i' = i then g else f i') := by
  rw [zbD (by simp [zes, h])]
  congr 1
  apply List.ext_getElem?
  intro j
  unfold zes
  by_cases hj : j = i
  · subst hj
    rw [List.getElem?_set_self (by simp [h])]
    simp [h]
  · rw [List.getElem?_set_ne (Ne.symm hj)]
    by_cases hl : j < n
    · simp [hl, hj]
    · rw [List.getElem?_eq_none (by simp; omega), List.getElem?_eq_none (by simp; omega)]
section
variable (a b : List Str)
def za0 (i k : Nat) : Int := zfs (a.drop i) (b.drop k)
def za9 (i k i' k' : Nat) : Int := if i < i' ∨ (i = i' ∧ k ≤ k') then za0 a b i' k' else 0
def zqp : List (List Int) := zes (a.length + 1) (b.length + 1) (za0 a b)
end
section
variable {a b : List Str}
theorem zmo (i : Nat) : za0 a b i b.length = 0 := by unfold za0; rw [List.drop_length, ziY]
theorem zlt (k : Nat) : za0 a b a.length k = 0 := by unfold za0; rw [List.drop_length, zkB]
theorem zkE (i k : Nat) : 0 ≤ za0 a b i k := zpi _ _
theorem zkF (i k : Nat) : za0 a b i k ≤ a.length := by
  have := zpj (a.drop i) (b.drop k)
  unfold za0
  simp only [List.length_drop] at this
  omega
theorem zhw {i k : Nat} {x y : Str} (hx : a[i]? = some x) (hy : b[k]? = some y) : za0 a b i k = if x == y then za0 a b (i + 1) (k + 1) + 1 else zrb (za0 a b (i + 1) k) (za0 a b i (k + 1)) := by
  have hi := zas hx
  have hk := zas hy
  have ex : a[i] = x := by rw [List.getElem?_eq_getElem hi] at hx; exact Option.some.inj hx
  have ey : b[k] = y := by rw [List.getElem?_eq_getElem hk] at hy; exact Option.some.inj hy
  unfold za0
  rw [List.drop_eq_getElem_cons hi, List.drop_eq_getElem_cons hk, ziZ, ex, ey]
theorem zdE {i k : Nat} {v : Int} (hv : v = za0 a b i k) (n m : Nat) : zes n m (fun i' => if i' = i then (fun k' => if k' = k then v else za9 a b i (k + 1) i k') else za9 a b i (k + 1) i') = zes n m (za9 a b i k) := by
  refine zdO fun i' k' _ _ => ?_
  by_cases h1 : i' = i
  · subst h1
    rw [if_pos rfl]
    by_cases h2 : k' = k
    · subst h2
      rw [if_pos rfl, hv]
      simp [za9]
    · rw [if_neg h2]
      simp only [za9, Nat.lt_irrefl, false_or, true_and]
      by_cases h3 : k + 1 ≤ k'
      · rw [if_pos h3, if_pos (by omega)]
      · rw [if_neg h3, if_neg (by omega)]
  · rw [if_neg h1]
    simp only [za9]
    by_cases h3 : i < i'
    · rw [if_pos (.inl h3), if_pos (.inl h3)]
    · rw [if_neg (by omega), if_neg (by omega)]
theorem zhx (i : Nat) : zes (a.length + 1) (b.length + 1) (za9 a b (i + 1) 0) = zes (a.length + 1) (b.length + 1) (za9 a b i b.length) := by
  refine zdO fun i' k' _ hk => ?_
  simp only [za9, Nat.zero_le, and_true]
  by_cases h : i < i'
  · rw [if_pos (by omega), if_pos (.inl h)]
  · rw [if_neg (by omega)]
    by_cases h2 : i = i' ∧ b.length ≤ k'
    · rw [if_pos (.inr h2), show k' = b.length by omega, zmo]
    · rw [if_neg (by omega)]
theorem zf3 : zes (a.length + 1) (b.length + 1) (fun _ _ => 0) = zes (a.length + 1) (b.length + 1) (za9 a b a.length 0) := by
  refine zdO fun i' k' hi _ => ?_
  simp only [za9, Nat.zero_le, and_true]
  by_cases h : a.length < i' ∨ a.length = i'
  · rw [if_pos h, show i' = a.length by omega, zlt]
  · rw [if_neg h]
theorem zi0 : zes (a.length + 1) (b.length + 1) (za9 a b 0 0) = zqp a b := by
  refine zdO fun i' k' _ _ => ?_
  simp only [za9, Nat.zero_le, and_true]
  rw [if_pos (by omega)]
theorem zmp (hb : b.length ≤ maxi) (hN : (a.length : Int) + 1 ≤ 9223372036854775807) {i : Nat} (hi : i < a.length) {R : Int → List (List Int) → Option (List (List Int))} : ∀ (k m : Nat), k ≤ b.length → k < m →
    zd4 a b (i : Int) R m ((k : Int) - 1) (zes (a.length + 1) (b.length + 1) (za9 a b i k)) = R (-1) (zes (a.length + 1) (b.length + 1) (za9 a b i 0))
  | 0, 0, _, h => by omega
  | 0, m + 1, _, _ => by
    simp only [zd4]
    rw [decide_eq_false (by omega)]; rfl
  | k + 1, 0, _, h => by omega
  | k + 1, m + 1, hk, hm => by
    unfold maxi at hb
    have hx : a[i]? = some a[i] := List.getElem?_eq_getElem hi
    have hy : b[k]? = some b[k] := List.getElem?_eq_getElem (by omega)
    have hst := zhw hx hy
    have e1 : (((k + 1 : Nat) : Int) - 1) = (k : Int) := by omega
    have e2 : w64 ((i : Int) + 1) = ((i + 1 : Nat) : Int) := by rw [zai (by omega) (by omega)]; omega
    have e3 : w64 ((k : Int) + 1) = ((k + 1 : Nat) : Int) := by rw [zai (by omega) (by omega)]; omega
    have e4 : w64 ((k : Int) - 1) = (k : Int) - 1 := zai (by omega) (by omega)
    have s1 : za9 a b i (k + 1) (i + 1) (k + 1) = za0 a b (i + 1) (k + 1) := by simp [za9]
    have s2 : za9 a b i (k + 1) (i + 1) k = za0 a b (i + 1) k := by simp [za9]
    have s3 : za9 a b i (k + 1) i (k + 1) = za0 a b i (k + 1) := by simp [za9]
    have lo := zkE (a := a) (b := b) (i + 1) (k + 1)
    have hi' := zkF (a := a) (b := b) (i + 1) (k + 1)
    have ih := zmp (by unfold maxi; exact hb) hN hi (R := R) k m (by omega) (by omega)
    simp only [zd4, jn, e1, e2, e3, e4, zad hx, zad hy, Option.bind_some, decide_eq_true (show (0 : Int) ≤ (k : Int) by omega), cond_true,
      zf2 (show i < a.length + 1 by omega), zf2 (show i + 1 < a.length + 1 by omega), zf1 (show k < b.length + 1 by omega), zf1 (show k + 1 < b.length + 1 by omega), s1, s2, s3,
      zkC (show k < b.length + 1 by omega), zkD (show i < a.length + 1 by omega)]
    cases he : a[i] == b[k] with
    | true =>
      rw [he, if_pos rfl] at hst
      rw [cond_true, zai (by omega) (by omega), zdE hst.symm]
      exact ih
    | false =>
      rw [he, if_neg (by simp)] at hst
      rw [cond_false, zdE hst.symm]
      exact ih
theorem zmq (hb : b.length ≤ maxi) (hN : (a.length : Int) + 1 ≤ 9223372036854775807) (hNb : (b.length : Int) + 1 ≤ 9223372036854775807) {R : Int → List (List Int) → Option (List (List Int))} : ∀ (i m : Nat), i ≤ a.length → i < m →
    zc6 a b R m ((i : Int) - 1) (zes (a.length + 1) (b.length + 1) (za9 a b i 0)) = R (-1) (zes (a.length + 1) (b.length + 1) (za9 a b 0 0))
  | 0, 0, _, h => by omega
  | 0, m + 1, _, _ => by
    simp only [zc6]
    rw [decide_eq_false (by omega)]; rfl
  | i + 1, 0, _, h => by omega
  | i + 1, m + 1, hi, hm => by
    have e1 : (((i + 1 : Nat) : Int) - 1) = (i : Int) := by omega
    have e2 : w64 ((b.length : Int) - 1) = (b.length : Int) - 1 := zai (by omega) (by omega)
    have e3 : w64 ((i : Int) - 1) = (i : Int) - 1 := zai (by omega) (by omega)
    simp only [zc6, jn, e1, e2, decide_eq_true (show (0 : Int) ≤ (i : Int) by omega), cond_true]
    rw [zhx, zmp hb hN (by omega) b.length _ (Nat.le_refl _) (by omega), e3]
    exact zmq hb hN hNb i m (by omega) (by omega)
theorem zmr (hb : b.length ≤ 1048576) {N : Nat} (hN : N ≤ 1048576) {q : List (List Int)} (hq : q.length = N) {R : Int → List (List Int) → Option (List (List Int))} : ∀ (n i m : Nat), i + n = N → n < m →
    zd5 b q R m (i : Int) ((List.range i).map (fun _ => zfL (b.length + 1) fun _ => 0) ++ List.replicate n []) = R (N : Int) (zes N (b.length + 1) fun _ _ => 0)
  | n, i, 0, _, h => by omega
  | 0, i, m + 1, hi, _ => by
    simp only [zd5]
    rw [hq, decide_eq_false (by omega), show i = N by omega]
    simp [zes]
  | n + 1, i, m + 1, hi, hm => by
    have e1 : w64 ((b.length : Int) + 1) = ((b.length + 1 : Nat) : Int) := by rw [zai (by omega) (by omega)]; omega
    have e2 : w64 ((i : Int) + 1) = ((i + 1 : Nat) : Int) := by rw [zai (by omega) (by omega)]; omega
    have hl : ((List.range i).map (fun _ => zfL (b.length + 1) fun _ => 0) ++ List.replicate (n + 1) []).length = i + (n + 1) := by simp
    obtain ⟨u, hu⟩ : ∃ u, ((List.range i).map (fun _ => zfL (b.length + 1) fun _ => 0) ++ List.replicate (n + 1) ([] : List Int))[i]? = some u := ⟨_, List.getElem?_eq_getElem (by omega)⟩
    simp only [zd5, hq, e1, e2, decide_eq_true (show (i : Int) < (N : Int) by omega), cond_true, zg2 (show b.length + 1 ≤ lim by unfold lim; omega), Option.bind_some, zad hu]
    rw [zbD (by rw [hl]; omega), Option.bind_some]
    have hset : ((List.range i).map (fun _ => zfL (b.length + 1) fun _ => 0) ++ List.replicate (n + 1) []).set i (List.replicate (b.length + 1) (0 : Int)) = (List.range (i + 1)).map (fun _ => zfL (b.length + 1) fun _ => 0) ++ List.replicate n [] := by
      rw [List.set_append, if_neg (by simp)]
      have hr : zfL (b.length + 1) (fun _ => 0) = List.replicate (b.length + 1) (0 : Int) := by
        unfold zfL
        rw [List.map_const', List.length_range]
      simp [List.range_succ, List.replicate_succ, hr]
    rw [hset]
    exact zmr hb hN hq n (i + 1) m (by omega) (by omega)
theorem zpk (ha : a.length ≤ 1000) (hb : b.length ≤ 1000) : zkO a b = some (zqp a b) := by
  unfold zkO
  have e1 : w64 ((a.length : Int) + 1) = ((a.length + 1 : Nat) : Int) := by rw [zai (by omega) (by omega)]; omega
  have e2 : w64 ((a.length : Int) - 1) = (a.length : Int) - 1 := zai (by omega) (by omega)
  rw [e1, zg2 (by unfold lim; omega), Option.bind_some]
  simp only [jn, e2]
  have h1 := zmr (b := b) (by omega) (N := a.length + 1) (by omega) (q := List.replicate (a.length + 1) []) (by simp)
    (R := fun y6 y7 => zc6 a b (fun y27 y29 => some y29) (((a.length : Int) - 1 + 1 - 0).toNat + 1) ((a.length : Int) - 1) y7) (a.length + 1) 0 (((List.replicate (a.length + 1) ([] : List Int)).length - (0 : Int)).toNat + 1) (by omega) (by simp)
  simp only [List.range_zero, List.map_nil, List.nil_append] at h1
  refine h1.trans ?_
  rw [zf3, zmq (by unfold maxi; omega) (by omega) (by omega) a.length _ (Nat.le_refl _) (by omega), zi0]
theorem zms (hb : b.length ≤ maxi) (hN : (a.length : Int) + 1 ≤ 9223372036854775807) {i : Nat} (hi : i < a.length) {R : Int → List (List Int) → Option (List (List Int))} : ∀ (k m : Nat), k ≤ b.length → k < m →
    zb1 a b (i : Int) R m ((k : Int) - 1) (zes (a.length + 1) (b.length + 1) (za9 a b i k)) = R (-1) (zes (a.length + 1) (b.length + 1) (za9 a b i 0))
  | 0, 0, _, h => by omega
  | 0, m + 1, _, _ => by
    simp only [zb1]
    rw [decide_eq_false (by omega)]; rfl
  | k + 1, 0, _, h => by omega
  | k + 1, m + 1, hk, hm => by
    unfold maxi at hb
    have hx : a[i]? = some a[i] := List.getElem?_eq_getElem hi
    have hy : b[k]? = some b[k] := List.getElem?_eq_getElem (by omega)
    have hst := zhw hx hy
    have e1 : (((k + 1 : Nat) : Int) - 1) = (k : Int) := by omega
    have e2 : w64 ((i : Int) + 1) = ((i + 1 : Nat) : Int) := by rw [zai (by omega) (by omega)]; omega
    have e3 : w64 ((k : Int) + 1) = ((k + 1 : Nat) : Int) := by rw [zai (by omega) (by omega)]; omega
    have e4 : w64 ((k : Int) - 1) = (k : Int) - 1 := zai (by omega) (by omega)
    have s1 : za9 a b i (k + 1) (i + 1) (k + 1) = za0 a b (i + 1) (k + 1) := by simp [za9]
    have s2 : za9 a b i (k + 1) (i + 1) k = za0 a b (i + 1) k := by simp [za9]
    have s3 : za9 a b i (k + 1) i (k + 1) = za0 a b i (k + 1) := by simp [za9]
    have lo := zkE (a := a) (b := b) (i + 1) (k + 1)
    have hi' := zkF (a := a) (b := b) (i + 1) (k + 1)
    have ih := zms (by unfold maxi; exact hb) hN hi (R := R) k m (by omega) (by omega)
    simp only [zb1, jn, e1, e2, e3, e4, zad hx, zad hy, Option.bind_some, decide_eq_true (show (0 : Int) ≤ (k : Int) by omega), cond_true,
      zf2 (show i < a.length + 1 by omega), zf2 (show i + 1 < a.length + 1 by omega), zf1 (show k < b.length + 1 by omega), zf1 (show k + 1 < b.length + 1 by omega), s1, s2, s3,
      zkC (show k < b.length + 1 by omega), zkD (show i < a.length + 1 by omega)]
    cases he : a[i] == b[k] with
    | true =>
      rw [he, if_pos rfl] at hst
      rw [cond_true, zai (by omega) (by omega), zdE hst.symm]
      exact ih
    | false =>
      rw [he, if_neg (by simp)] at hst
      rw [cond_false]
      unfold zrb at hst
      by_cases hc : za0 a b i (k + 1) ≤ za0 a b (i + 1) k
      · rw [if_neg (by omega)] at hst
        rw [decide_eq_true hc, cond_true, zdE hst.symm]
        exact ih
      · rw [if_pos (by omega)] at hst
        rw [decide_eq_false hc, cond_false, zdE hst.symm]
        exact ih
theorem zmt (hb : b.length ≤ maxi) (hN : (a.length : Int) + 1 ≤ 9223372036854775807) (hNb : (b.length : Int) + 1 ≤ 9223372036854775807) {R : Int → List (List Int) → Option (List (List Int))} : ∀ (i m : Nat), i ≤ a.length → i < m →
    zbm a b R m ((i : Int) - 1) (zes (a.length + 1) (b.length + 1) (za9 a b i 0)) = R (-1) (zes (a.length + 1) (b.length + 1) (za9 a b 0 0))
  | 0, 0, _, h => by omega
  | 0, m + 1, _, _ => by
    simp only [zbm]
    rw [decide_eq_false (by omega)]; rfl
  | i + 1, 0, _, h => by omega
  | i + 1, m + 1, hi, hm => by
    have e1 : (((i + 1 : Nat) : Int) - 1) = (i : Int) := by omega
    have e2 : w64 ((b.length : Int) - 1) = (b.length : Int) - 1 := zai (by omega) (by omega)
    have e3 : w64 ((i : Int) - 1) = (i : Int) - 1 := zai (by omega) (by omega)
    simp only [zbm, jn, e1, e2, decide_eq_true (show (0 : Int) ≤ (i : Int) by omega), cond_true]
    rw [zhx, zms hb hN (by omega) b.length _ (Nat.le_refl _) (by omega), e3]
    exact zmt hb hN hNb i m (by omega) (by omega)
theorem zmu (ha : a.length ≤ 1000) (hb : b.length ≤ 1000) {R : List (List Int) → Int → Option (List (List Int))} : ∀ (n i m : Nat), i + n = a.length + 1 → n < m →
    zb2 a b R m ((List.range i).map (fun _ => zfL (b.length + 1) fun _ => 0)) (i : Int) = R (zes (a.length + 1) (b.length + 1) fun _ _ => 0) ((a.length + 1 : Nat) : Int)
  | n, i, 0, _, h => by omega
  | 0, i, m + 1, hi, _ => by
    simp only [zb2]
    rw [decide_eq_false (by omega), show i = a.length + 1 by omega]
    simp [zes]
  | n + 1, i, m + 1, hi, hm => by
    have e1 : w64 ((b.length : Int) + 1) = ((b.length + 1 : Nat) : Int) := by rw [zai (by omega) (by omega)]; omega
    have e2 : w64 ((i : Int) + 1) = ((i + 1 : Nat) : Int) := by rw [zai (by omega) (by omega)]; omega
    have hr : zfL (b.length + 1) (fun _ => 0) = List.replicate (b.length + 1) (0 : Int) := by
      unfold zfL
      rw [List.map_const', List.length_range]
    simp only [zb2, e1, e2, decide_eq_true (show (i : Int) ≤ (a.length : Int) by omega), cond_true, zg2 (show b.length + 1 ≤ lim by unfold lim; omega), Option.bind_some]
    rw [zg3 (by simp [lim]; omega), Option.bind_some]
    have hset : (List.range i).map (fun _ => zfL (b.length + 1) fun _ => 0) ++ [List.replicate (b.length + 1) (0 : Int)] = (List.range (i + 1)).map (fun _ => zfL (b.length + 1) fun _ => 0) := by
      simp [List.range_succ, hr]
    rw [hset]
    exact zmu ha hb n (i + 1) m (by omega) (by omega)
theorem zpl (ha : a.length ≤ 1000) (hb : b.length ≤ 1000) : zfm a b = some (zqp a b) := by
  unfold zfm
  have e2 : w64 ((a.length : Int) - 1) = (a.length : Int) - 1 := zai (by omega) (by omega)
  simp only [jn, e2]
  have h1 := zmu (a := a) (b := b) ha hb
    (R := fun y3 y6 => zbm a b (fun y28 y30 => some y30) (((a.length : Int) - 1 + 1 - 0).toNat + 1) ((a.length : Int) - 1) y3) (a.length + 1) 0 (((a.length : Int) + 1 - 0).toNat + 1) (by omega) (by omega)
  simp only [List.range_zero, List.map_nil] at h1
  refine h1.trans ?_
  rw [zf3, zmt (by unfold maxi; omega) (by omega) (by omega) a.length _ (Nat.le_refl _) (by omega), zi0]
end
def mtF : List Str → List Str → Nat → List Int
  | [], _, _ => []
  | _ :: xs, [], k => -1 :: mtF xs [] k
  | x :: xs, y :: ys, k => if x == y then (k : Int) :: mtF xs ys (k + 1) else if zfs (x :: xs) ys ≤ zfs xs (y :: ys) then -1 :: mtF xs (y :: ys) k else mtF (x :: xs) ys (k + 1)
termination_by a b _ => a.length + b.length
theorem zhi (b : List Str) (k : Nat) : mtF [] b k = [] := by rw [mtF]
theorem zfS (x : Str) (xs : List Str) (k : Nat) : mtF (x :: xs) [] k = -1 :: mtF xs [] k := by rw [mtF]
theorem zfA (x y : Str) (xs ys : List Str) (k : Nat) : mtF (x :: xs) (y :: ys) k = if x == y then (k : Int) :: mtF xs ys (k + 1) else if zfs (x :: xs) ys ≤ zfs xs (y :: ys) then -1 :: mtF xs (y :: ys) k else mtF (x :: xs) ys (k + 1) := by rw [mtF]
def mt2 (a b : List Str) : List Int := mtF a b 0
theorem zm2 {xs : List Int} {x : Int} (h : xs.length ≤ 1000000) : apM xs [x] = some (xs ++ [x]) := zg3 (by simp [lim]; omega)
section
variable {a b : List Str}
theorem zh1 {i k : Nat} (hi : i ≤ a.length) (hk : k ≤ b.length) : ∃ r, gi (zqp a b) (i : Int) = some r ∧ gi r (k : Int) = some (za0 a b i k) :=
  ⟨_, zf2 (by omega), zf1 (by omega)⟩
theorem zbL {i : Nat} (h : i < a.length) : a.drop i = a[i] :: a.drop (i + 1) := List.drop_eq_getElem_cons h
theorem zi1 (ha : a.length ≤ 1000) (hb : b.length ≤ 1000) : ∀ (m i k : Nat) (out : List Int), (a.length - i) + (b.length - k) < m → i ≤ a.length → k ≤ b.length → out.length = i →
    zdS a b (zqp a b) (fun y5 _ _ => some y5) m out (i : Int) (k : Int) = some (out ++ mtF (a.drop i) (b.drop k) k)
  | 0, i, k, out, hm, _, _, _ => by omega
  | m + 1, i, k, out, hm, hi, hk, ho => by
    have e2 : w64 ((i : Int) + 1) = ((i + 1 : Nat) : Int) := by rw [zai (by omega) (by omega)]; omega
    have e3 : w64 ((k : Int) + 1) = ((k + 1 : Nat) : Int) := by rw [zai (by omega) (by omega)]; omega
    simp only [zdS, jn, e2, e3]
    by_cases hil : i < a.length
    case neg =>
      rw [decide_eq_false (by omega), cond_false, show i = a.length by omega, List.drop_length, zhi, List.append_nil]
    have hx : a[i]? = some a[i] := List.getElem?_eq_getElem hil
    rw [decide_eq_true (by omega), cond_true, zbL hil]
    by_cases hkl : k < b.length
    case neg =>
      have hke : k = b.length := by omega
      rw [decide_eq_false (by omega), cond_false, cond_false, show ((k : Int) == (b.length : Int)) = true by simp [hke], cond_true, cond_true, zm2 (by omega), Option.bind_some,
        zi1 ha hb m (i + 1) k _ (by omega) (by omega) hk (by simp [ho])]
      rw [hke, List.drop_length, zfS]
      simp
    have hy : b[k]? = some b[k] := List.getElem?_eq_getElem hkl
    rw [decide_eq_true (by omega), cond_true, zad hx, Option.bind_some, zad hy, Option.bind_some, zbL hkl, zfA]
    cases he : a[i] == b[k] with
    | true =>
      rw [cond_true, zm2 (by omega), Option.bind_some, zi1 ha hb m (i + 1) (k + 1) _ (by omega) (by omega) (by omega) (by simp [ho])]
      simp
    | false =>
      rw [cond_false, show ((k : Int) == (b.length : Int)) = false by simp; omega, cond_false]
      obtain ⟨r1, h1, h2⟩ := zh1 (a := a) (b := b) (i := i + 1) (k := k) (by omega) (by omega)
      obtain ⟨r3, h3, h4⟩ := zh1 (a := a) (b := b) (i := i) (k := k + 1) (by omega) (by omega)
      rw [h1, Option.bind_some, h2, Option.bind_some, h3, Option.bind_some, h4, Option.bind_some]
      have c1 : za0 a b i (k + 1) = zfs (a[i] :: a.drop (i + 1)) (b.drop (k + 1)) := by unfold za0; rw [zbL hil]
      have c2 : za0 a b (i + 1) k = zfs (a.drop (i + 1)) (b[k] :: b.drop (k + 1)) := by unfold za0; rw [zbL hkl]
      rw [← c1, ← c2]
      by_cases hc : za0 a b i (k + 1) ≤ za0 a b (i + 1) k
      · rw [decide_eq_true hc, cond_true, zm2 (by omega), Option.bind_some, zi1 ha hb m (i + 1) k _ (by omega) (by omega) hk (by simp [ho]), if_neg (by simp), if_pos hc, zbL hkl]
        simp
      · rw [decide_eq_false hc, cond_false, zi1 ha hb m i (k + 1) _ (by omega) hi (by omega) ho, if_neg (by simp), if_neg hc, zbL hil]
theorem zi2 (ha : a.length ≤ 1000) (hb : b.length ≤ 1000) : zgn a b = some (mt2 a b) := by
  unfold zgn
  rw [zpk ha hb, Option.bind_some]
  simp only [jn]
  have := zi1 ha hb (a.length + b.length + 1) 0 0 [] (by omega) (by omega) (by omega) rfl
  simpa [mt2] using this
theorem zi3 (ha : a.length ≤ 1000) (hb : b.length ≤ 1000) : ∀ (m i k : Nat) (out : List Int), (a.length - i) + (b.length - k) < m → i ≤ a.length → k ≤ b.length → out.length = i →
    zcR a b (zqp a b) (fun y5 _ _ => some y5) m out (k : Int) (i : Int) = some (out ++ mtF (a.drop i) (b.drop k) k)
  | 0, i, k, out, hm, _, _, _ => by omega
  | m + 1, i, k, out, hm, hi, hk, ho => by
    have e2 : w64 ((i : Int) + 1) = ((i + 1 : Nat) : Int) := by rw [zai (by omega) (by omega)]; omega
    have e3 : w64 ((k : Int) + 1) = ((k + 1 : Nat) : Int) := by rw [zai (by omega) (by omega)]; omega
    simp only [zcR, jn, e2, e3]
    by_cases hil : i < a.length
    case neg =>
      rw [decide_eq_false (by omega), cond_false, show i = a.length by omega, List.drop_length, zhi, List.append_nil]
    have hx : a[i]? = some a[i] := List.getElem?_eq_getElem hil
    rw [decide_eq_true (by omega), cond_true, zbL hil]
    by_cases hkl : k < b.length
    case neg =>
      have hke : k = b.length := by omega
      rw [decide_eq_false (by omega), cond_false, cond_false, decide_eq_true (by omega), cond_true, cond_true, zm2 (by omega), Option.bind_some,
        zi3 ha hb m (i + 1) k _ (by omega) (by omega) hk (by simp [ho])]
      rw [hke, List.drop_length, zfS]
      simp
    have hy : b[k]? = some b[k] := List.getElem?_eq_getElem hkl
    rw [decide_eq_true (by omega), cond_true, zad hx, Option.bind_some, zad hy, Option.bind_some, zbL hkl, zfA]
    cases he : a[i] == b[k] with
    | true =>
      rw [cond_true, zm2 (by omega), Option.bind_some, zi3 ha hb m (i + 1) (k + 1) _ (by omega) (by omega) (by omega) (by simp [ho])]
      simp
    | false =>
      rw [cond_false, decide_eq_false (by omega), cond_false]
      obtain ⟨r1, h1, h2⟩ := zh1 (a := a) (b := b) (i := i + 1) (k := k) (by omega) (by omega)
      obtain ⟨r3, h3, h4⟩ := zh1 (a := a) (b := b) (i := i) (k := k + 1) (by omega) (by omega)
      rw [h1, Option.bind_some, h2, Option.bind_some, h3, Option.bind_some, h4, Option.bind_some]
      have c1 : za0 a b i (k + 1) = zfs (a[i] :: a.drop (i + 1)) (b.drop (k + 1)) := by unfold za0; rw [zbL hil]
      have c2 : za0 a b (i + 1) k = zfs (a.drop (i + 1)) (b[k] :: b.drop (k + 1)) := by unfold za0; rw [zbL hkl]
      rw [← c1, ← c2]
      by_cases hc : za0 a b i (k + 1) ≤ za0 a b (i + 1) k
      · rw [decide_eq_true hc, cond_true, zm2 (by omega), Option.bind_some, zi3 ha hb m (i + 1) k _ (by omega) (by omega) hk (by simp [ho]), if_neg (by simp), if_pos hc, zbL hkl]
        simp
      · rw [decide_eq_false hc, cond_false, zi3 ha hb m i (k + 1) _ (by omega) hi (by omega) ho, if_neg (by simp), if_neg hc, zbL hil]
theorem zhU (ha : a.length ≤ 1000) (hb : b.length ≤ 1000) : zek a b = some (mt2 a b) := by
  unfold zek
  rw [zpl ha hb, Option.bind_some]
  simp only [jn]
  have := zi3 ha hb (a.length + b.length + 1) 0 0 [] (by omega) (by omega) (by omega) rfl
  simpa [mt2] using this
end
def Asc (hi : Int) : Int → List Int → Prop
  | _, [] => True
  | lo, x :: l => (x = -1 ∧ Asc hi lo l) ∨ (lo ≤ x ∧ x < hi ∧ Asc hi (x + 1) l)
theorem Asc.mono {hi : Int} : ∀ {l : List Int} {lo lo' : Int}, lo' ≤ lo → Asc hi lo l → Asc hi lo' l
  | [], _, _, _, _ => trivial
  | x :: l, lo, lo', h, .inl ⟨h1, h2⟩ => .inl ⟨h1, Asc.mono h h2⟩
  | x :: l, lo, lo', h, .inr ⟨h1, h2, h3⟩ => .inr ⟨by omega, h2, h3⟩
theorem zfh : ∀ (n : Nat) (a b : List Str) (k : Nat), a.length + b.length ≤ n → Asc ((k + b.length : Nat) : Int) (k : Int) (mtF a b k) ∧ (mtF a b k).length = a.length
  | _, [], b, k, _ => by rw [zhi]; exact ⟨trivial, rfl⟩
  | 0, x :: xs, b, k, h => by simp at h
  | n + 1, x :: xs, [], k, h => by
    rw [zfS]
    have := zfh n xs [] k (by simp at h ⊢; omega)
    exact ⟨.inl ⟨rfl, this.1⟩, by simp [this.2]⟩
  | n + 1, x :: xs, y :: ys, k, h => by
    simp only [List.length_cons] at h
    rw [zfA]
    split
    · have := zfh n xs ys (k + 1) (by omega)
      refine ⟨.inr ⟨Int.le_refl _, by simp only [List.length_cons]; omega, ?_⟩, by simp [this.2]⟩
      have h1 := this.1
      rw [show ((k + (y :: ys).length : Nat) : Int) = ((k + 1 + ys.length : Nat) : Int) by simp only [List.length_cons]; omega, show (k : Int) + 1 = ((k + 1 : Nat) : Int) by omega]
      exact h1
    · split
      · have := zfh n xs (y :: ys) k (by simp; omega)
        exact ⟨.inl ⟨rfl, this.1⟩, by simp [this.2]⟩
      · have := zfh n (x :: xs) ys (k + 1) (by simp; omega)
        refine ⟨?_, by simp [this.2]⟩
        have h1 := this.1
        rw [show ((k + (y :: ys).length : Nat) : Int) = ((k + 1 + ys.length : Nat) : Int) by simp only [List.length_cons]; omega]
        exact h1.mono (by omega)
theorem zet (a b : List Str) : Asc (b.length : Int) 0 (mt2 a b) ∧ (mt2 a b).length = a.length := by
  have := zfh _ a b 0 (Nat.le_refl _)
  simpa [mt2] using this
theorem Asc.snoc {hi : Int} (h0 : 0 ≤ hi) : ∀ {l : List Int} {lo : Int}, lo ≤ hi → Asc hi lo l → Asc (hi + 1) lo (l ++ [hi])
  | [], lo, h, _ => .inr ⟨h, by omega, trivial⟩
  | x :: l, lo, h, .inl ⟨h1, h2⟩ => .inl ⟨h1, Asc.snoc h0 h h2⟩
  | x :: l, lo, h, .inr ⟨h1, h2, h3⟩ => .inr ⟨h1, by omega, Asc.snoc h0 (by omega) h3⟩
end Go.Vm
namespace Go.Sx
open Go
theorem zkn {R α σ : Type} {xs : List α} {step : σ → α → Option σ} {r0 : Option R} (Inv : Nat → σ → Prop) {f : Nat → σ → Int → Option R} {Z : σ → Option R} {s0 : σ}
    (hs : ∀ m (i : Nat) x s, xs[i]? = some x → Inv i s → (f (m + 1) s (i : Int) = match step s x with | some s' => f m s' ((i + 1 : Nat) : Int) | none => r0) ∧ ∀ s', step s x = some s' → Inv (i + 1) s')
    (he : ∀ m s, Inv xs.length s → f (m + 1) s (xs.length : Int) = Z s) {m : Nat} (hm : xs.length < m) (h0 : Inv 0 s0) :
    f m s0 0 = (match xs.foldlM step s0 with | some s => Z s | none => r0) ∧ ∀ s, xs.foldlM step s0 = some s → Inv xs.length s := by
  have key : ∀ k i m s, i + k = xs.length → k < m → Inv i s → f m s (i : Int) = (match (xs.drop i).foldlM step s with | some s => Z s | none => r0) ∧ ∀ s', (xs.drop i).foldlM step s = some s' → Inv xs.length s' := by
    intro k
    induction k with
    | zero =>
      intro i m s hi hm hI
      obtain ⟨m, rfl⟩ : ∃ q, m = q + 1 := ⟨m - 1, by omega⟩
      have hii : i = xs.length := by omega
      subst hii
      rw [he m s hI, List.drop_length]
      exact ⟨rfl, fun s' h => by have : s = s' := by simpa using h
                                 rw [← this]; exact hI⟩
    | succ k ih =>
      intro i m s hi hm hI
      obtain ⟨m, rfl⟩ : ∃ q, m = q + 1 := ⟨m - 1, by omega⟩
      have hlt : i < xs.length := by omega
      obtain ⟨h1, h2⟩ := hs m i xs[i] s (List.getElem?_eq_getElem hlt) hI
      rw [h1, List.drop_eq_getElem_cons hlt, List.foldlM_cons]
      cases hst : step s xs[i] with
      | none => exact ⟨rfl, fun s' h => by simp at h⟩
      | some s1 =>
        obtain ⟨h3, h4⟩ := ih (i + 1) m s1 (by omega) (by omega) (h2 s1 hst)
        exact ⟨h3, h4⟩
  have := key xs.length 0 m s0 (by omega) hm h0
  simpa using this
theorem zcK {R α : Type} {xs : List α} {p : α → Bool} {r : α → Option R} {Z : Option R} {f : Nat → Int → Option R}
    (hs : ∀ m (i : Nat) x, xs[i]? = some x → f (m + 1) (i : Int) = bif p x then r x else f m ((i + 1 : Nat) : Int)) (he : ∀ m, f (m + 1) (xs.length : Int) = Z) {m : Nat} (hm : xs.length < m) :
    f m 0 = match xs.find? p with | some x => r x | none => Z := by
  have key : ∀ k i m, i + k = xs.length → k < m → f m (i : Int) = match (xs.drop i).find? p with | some x => r x | none => Z := by
    intro k
    induction k with
    | zero =>
      intro i m hi hm
      obtain ⟨m, rfl⟩ : ∃ q, m = q + 1 := ⟨m - 1, by omega⟩
      rw [show i = xs.length by omega, he, List.drop_length]
      rfl
    | succ k ih =>
      intro i m hi hm
      obtain ⟨m, rfl⟩ : ∃ q, m = q + 1 := ⟨m - 1, by omega⟩
      have hlt : i < xs.length := by omega
      rw [hs m i xs[i] (List.getElem?_eq_getElem hlt), List.drop_eq_getElem_cons hlt, List.find?_cons]
      cases p xs[i] with
      | true => rfl
      | false => exact ih (i + 1) m (by omega) (by omega)
  have := key xs.length 0 m (by omega) hm
  simpa using this
end Go.Sx
namespace Go.Vm
open Go Go.Sx
set_option linter.unusedSimpArgs false
set_option linter.unusedVariables false
def lnP (l : List Str) : Part := ⟨false, l, [], [], []⟩
def zdi (o a b : List Str) : Part := bif a == o || a == b then lnP b else bif b == o then lnP a else ⟨true, [], o, a, b⟩
def zkc (out : List Part) (p : Part) : List Part :=
  bif !p.Clash && p.Lines.length == 0 then out else
  match out[out.length - 1]? with
  | some q => bif !p.Clash && !q.Clash then out.set (out.length - 1) ⟨q.Clash, q.Lines ++ p.Lines, q.Old, q.One, q.Two⟩ else out ++ [p]
  | none => out ++ [p]
def PB (n : Nat) (out : List Part) : Prop := out.length ≤ n ∧ ∀ q ∈ out, q.Lines.length ≤ 1000 * n
theorem PB.mono {n m : Nat} {out : List Part} (h : PB n out) (hm : n ≤ m) : PB m out := ⟨Nat.le_trans h.1 hm, fun q hq => Nat.le_trans (h.2 q hq) (Nat.mul_le_mul_left _ hm)⟩
theorem zkx {n : Nat} {out : List Part} {p : Part} (h : PB n out) (hp : p.Lines.length ≤ 1000) : PB (n + 1) (zkc out p) := by
  have happ : PB (n + 1) (out ++ [p]) := ⟨by simp; exact h.1, fun q hq => by
    rcases List.mem_append.1 hq with h1 | h1
    · have := h.2 q h1; omega
    · rw [List.mem_singleton] at h1; rw [h1]; omega⟩
  unfold zkc
  cases (!p.Clash && p.Lines.length == 0) with
  | true => exact h.mono (by omega)
  | false =>
    rw [cond_false]
    split
    · rename_i q hq
      cases (!p.Clash && !q.Clash) with
      | false => exact happ
      | true =>
        rw [cond_true]
        refine ⟨by rw [List.length_set]; have := h.1; omega, fun r hr => ?_⟩
        rcases List.mem_or_eq_of_mem_set hr with h1 | h1
        · have := h.2 r h1; omega
        · rw [h1]
          have := h.2 q (List.mem_of_getElem? hq)
          simp only [List.length_append]
          omega
    · exact happ
theorem zgF {o a b : List Str} (ha : a.length ≤ 1000) (hb : b.length ≤ 1000) : (zdi o a b).Lines.length ≤ 1000 := by
  unfold zdi lnP
  cases (a == o || a == b)
  · cases b == o
    · simp
    · exact ha
  · exact hb
theorem apL {xs ys : List Str} (h : xs.length ≤ 4000000) (h' : ys.length ≤ 1000) : apM xs ys = some (xs ++ ys) := zg3 (by simp [lim]; omega)
theorem zn9 {o a b : List Str} (ho : o.length ≤ 1000) (ha : a.length ≤ 1000) (hb : b.length ≤ 1000) : zhN o a b = some (zdi o a b) := by
  unfold zhN zdi lnP
  simp only [jn, zey (show a.length ≤ maxi by unfold maxi; omega), zey (show b.length ≤ maxi by unfold maxi; omega), Option.bind_some, apN (show o.length ≤ 1048576 by omega), apN (show a.length ≤ 1048576 by omega), apN (show b.length ≤ 1048576 by omega)]
  cases a == o <;> cases a == b <;> cases b == o <;> rfl
theorem zoS {n : Nat} (h : n ≤ 4000000) (h0 : 0 < n) : w64 ((n : Int) - 1) = ((n - 1 : Nat) : Int) := by rw [zai (by omega) (by omega)]; omega
theorem zmv {n : Nat} {out : List Part} {p : Part} (h : PB n out) (hn : n ≤ 4000) (hp : p.Lines.length ≤ 1000) : zik out p = some (zkc out p) := by
  have hl := h.1
  unfold zik zkc
  have hz : (((p.Lines.length : Int)) == (0 : Int)) = (p.Lines.length == 0) := by
    have : ∀ b c : Bool, (b = true ↔ c = true) → b = c := by decide
    apply this; simp
  simp only [jn, hz, show (⟨p.Clash, p.Lines, p.Old, p.One, p.Two⟩ : Part) = p from rfl]
  have happ : apM out [p] = some (out ++ [p]) := zg3 (by simp [lim]; omega)
  cases hc : p.Clash with
  | true =>
    simp only [Bool.not_true, Bool.false_and, cond_false, happ, Option.bind_some]
    by_cases h0 : 0 < out.length
    · rw [decide_eq_true (by omega), cond_true, List.getElem?_eq_getElem (by omega)]
    · rw [decide_eq_false (by omega), cond_false, List.getElem?_eq_none (by omega)]
  | false =>
    simp only [Bool.not_false, Bool.true_and, cond_true]
    cases hz2 : (p.Lines.length == 0) with
    | true => rfl
    | false =>
      simp only [cond_false]
      by_cases h0 : 0 < out.length
      · obtain ⟨q, hq⟩ : ∃ q, out[out.length - 1]? = some q := ⟨_, List.getElem?_eq_getElem (by omega)⟩
        have hql := h.2 q (List.mem_of_getElem? hq)
        rw [decide_eq_true (by omega), cond_true, zoS (by omega) h0, zad hq, Option.bind_some, hq]
        cases hqc : q.Clash with
        | true => simp [happ, hqc]
        | false =>
          simp only [hqc, Bool.not_false, cond_true, Option.bind_some]
          rw [apL (by omega) hp, Option.bind_some, zbD (by omega), Option.bind_some]
      · rw [decide_eq_false (by omega), cond_false, List.getElem?_eq_none (by omega), happ]
        rfl
theorem c1_eq {n : Nat} {out : List Part} {l : List Str} (h : PB n out) (hn : n ≤ 4000) (hp : l.length ≤ 1000) : zdn l out = some (zkc out (lnP l)) := by
  have hl := h.1
  unfold zdn zkc lnP
  have hz : (((l.length : Int)) == (0 : Int)) = (l.length == 0) := by
    have : ∀ b c : Bool, (b = true ↔ c = true) → b = c := by decide
    apply this; simp
  simp only [jn, hz, Bool.not_false, Bool.true_and]
  cases hz2 : (l.length == 0) with
  | true => rfl
  | false =>
    simp only [cond_false]
    have happ : apM out [(⟨false, [], [], [], []⟩ : Part)] = some (out ++ [⟨false, [], [], [], []⟩]) := zg3 (by simp [lim]; omega)
    have hat : (out ++ [(⟨false, [], [], [], []⟩ : Part)])[out.length]? = some ⟨false, [], [], [], []⟩ := by simp
    by_cases h0 : 0 < out.length
    · obtain ⟨q, hq⟩ : ∃ q, out[out.length - 1]? = some q := ⟨_, List.getElem?_eq_getElem (by omega)⟩
      have hql := h.2 q (List.mem_of_getElem? hq)
      rw [zoS (by omega) h0, decide_eq_false (by omega), cond_false, zad hq, Option.bind_some, hq]
      cases hqc : q.Clash with
      | true =>
        have e1 : w64 (((out.length - 1 : Nat) : Int) + 1) = (out.length : Int) := by rw [zai (by omega) (by omega)]; omega
        rw [cond_true, happ, Option.bind_some, e1, zad hat, Option.bind_some, apL (by simp) hp, Option.bind_some, Option.bind_some, zbD (by simp), Option.bind_some]
        simp [hqc]
      | false =>
        rw [cond_false, Option.bind_some, apL (by omega) hp, Option.bind_some, Option.bind_some, zbD (by omega), Option.bind_some]
        simp [hqc]
    · have e0 : w64 ((out.length : Int) - 1) = -1 := by rw [zai (by omega) (by omega)]; omega
      have e1 : w64 ((-1 : Int) + 1) = (out.length : Int) := by rw [zai (by omega) (by omega)]; omega
      rw [e0, List.getElem?_eq_none (by omega)]
      rw [show decide ((-1 : Int) < 0) = true by decide, cond_true, happ, Option.bind_some, e1, zad hat, Option.bind_some, apL (by simp) hp, Option.bind_some, Option.bind_some, zbD (by simp), Option.bind_some]
      simp
theorem zo0 (out : List Part) (o a b : List Str) : zkc out ⟨true, [], o, a, b⟩ = out ++ [⟨true, [], o, a, b⟩] := by
  unfold zkc
  simp only [Bool.not_true, Bool.false_and, cond_false]
  split <;> rfl
def zbt {α : Type} (xs : List α) (l h : Int) : List α := (xs.take h.toNat).drop l.toNat
theorem zcg {α : Type} (xs : List α) (l h : Int) : (zbt xs l h).length ≤ xs.length := by unfold zbt; simp; omega
def zdz (o a b : List Str) (i x y io ia ib : Int) (out : List Part) : List Part :=
  match o[i.toNat]? with
  | some s => zkc (zkc out (zdi (zbt o io i) (zbt a ia x) (zbt b ib y))) (lnP [s])
  | none => zkc out (zdi (zbt o io i) (zbt a ia x) (zbt b ib y))
def zbF (o a b : List Str) : Int → List Int → List Int → Int → Int → Int → List Part → List Part
  | i, x :: ma, y :: mb, io, ia, ib, out =>
    bif decide (x < 0) || decide (y < 0) then zbF o a b (i + 1) ma mb io ia ib out
    else zbF o a b (i + 1) ma mb (i + 1) (x + 1) (y + 1) (zdz o a b i x y io ia ib out)
  | _, [], _, _, _, _, out => out
  | _, _ :: _, [], _, _, _, out => out
def zbd (o a b : List Str) : List Part := zbF o a b 0 (mt2 o a ++ [(a.length : Int)]) (mt2 o b ++ [(b.length : Int)]) 0 0 0 []
theorem zi4 {o a b : List Str} (ha : a.length ≤ 1000) (hb : b.length ≤ 1000) {i x y io ia ib : Int} {n : Nat} {out : List Part} (h : PB n out) : PB (n + 2) (zdz o a b i x y io ia ib out) := by
  have h1 := zkx h (zgF (o := zbt o io i) (Nat.le_trans (zcg a ia x) ha) (Nat.le_trans (zcg b ib y) hb))
  unfold zdz
  split
  · exact zkx h1 (by simp [lnP])
  · exact h1.mono (by omega)
theorem zhV {o a b : List Str} (ha : a.length ≤ 1000) (hb : b.length ≤ 1000) : ∀ (ma mb : List Int) (i io ia ib : Int) (n : Nat) (out : List Part), PB n out → PB (n + 2 * ma.length) (zbF o a b i ma mb io ia ib out)
  | [], mb, i, io, ia, ib, n, out, h => by rw [zbF.eq_def]; exact h.mono (by omega)
  | x :: ma, [], i, io, ia, ib, n, out, h => by rw [zbF.eq_def]; exact h.mono (by omega)
  | x :: ma, y :: mb, i, io, ia, ib, n, out, h => by
    rw [zbF]
    cases (decide (x < 0) || decide (y < 0)) with
    | true => exact (zhV ha hb ma mb _ _ _ _ n out h).mono (by simp; omega)
    | false => exact (zhV ha hb ma mb _ _ _ _ (n + 2) _ (zi4 ha hb h)).mono (by simp; omega)
theorem zkR {l : List Int} {i : Nat} {x : Int} (h : l[i]? = some x) : l.drop i = x :: l.drop (i + 1) := by
  have hi := zas h
  rw [List.drop_eq_getElem_cons hi]
  rw [List.getElem?_eq_getElem hi] at h
  rw [Option.some.inj h]
theorem zim {o a b : List Str} (ho : o.length ≤ 1000) (ha : a.length ≤ 1000) (hb : b.length ≤ 1000) {ma mb : List Int} (hla : ma.length = o.length + 1) (hlb : mb.length = o.length + 1) :
    ∀ (n i m : Nat) (io ia ib : Int) (out : List Part), i + n = o.length + 1 → n < m → Asc ((a.length : Int) + 1) ia (ma.drop i) → Asc ((b.length : Int) + 1) ib (mb.drop i) → 0 ≤ io → io ≤ i → 0 ≤ ia → 0 ≤ ib → PB (2 * i) out →
      zdp o a b ma mb (fun y45 _ _ _ _ => some y45) m out io ia ib (i : Int) = some (zbF o a b i (ma.drop i) (mb.drop i) io ia ib out)
  | n, i, 0, _, _, _, _, _, hm, _, _, _, _, _, _, _ => by omega
  | 0, i, m + 1, io, ia, ib, out, hi, _, _, _, _, _, _, _, _ => by
    simp only [zdp]
    rw [decide_eq_false (by omega), cond_false, List.drop_eq_nil_of_le (by omega), zbF.eq_def]
  | n + 1, i, m + 1, io, ia, ib, out, hi, hm, hA, hB, h0, h1, h2, h3, hP => by
    obtain ⟨x, hx⟩ : ∃ x, ma[i]? = some x := ⟨_, List.getElem?_eq_getElem (by omega)⟩
    obtain ⟨y, hy⟩ : ∃ y, mb[i]? = some y := ⟨_, List.getElem?_eq_getElem (by omega)⟩
    rw [zkR hx] at hA ⊢
    rw [zkR hy] at hB ⊢
    have ei : w64 ((i : Int) + 1) = ((i + 1 : Nat) : Int) := by rw [zai (by omega) (by omega)]; omega
    have ei' : (i : Int) + 1 = ((i + 1 : Nat) : Int) := by omega
    rw [ei'] at ei
    have dn : decide ((-1 : Int) < 0) = true := rfl
    have hstay : ∀ (hA' : Asc ((a.length : Int) + 1) ia (ma.drop (i + 1))) (hB' : Asc ((b.length : Int) + 1) ib (mb.drop (i + 1))), zdp o a b ma mb (fun y45 _ _ _ _ => some y45) m out io ia ib ((i + 1 : Nat) : Int) = some (zbF o a b ((i + 1 : Nat) : Int) (ma.drop (i + 1)) (mb.drop (i + 1)) io ia ib out) :=
      fun hA' hB' => zim ho ha hb hla hlb n (i + 1) m io ia ib out (by omega) (by omega) hA' hB' h0 (by omega) h2 h3 (hP.mono (by omega))
    rw [zbF]
    simp only [zdp, jn, zad hx, zad hy, Option.bind_some, ei, ei', hla]
    rw [decide_eq_true (show (i : Int) < ((o.length + 1 : Nat) : Int) by omega), cond_true]
    rcases hA with ⟨rfl, hA⟩ | ⟨ha1, ha2, hA⟩
    · rcases hB with ⟨rfl, hB⟩ | ⟨hb1, hb2, hB⟩
      · simp only [dn, cond_true, Bool.true_or]; exact hstay hA hB
      · simp only [dn, cond_true, Bool.true_or]; exact hstay hA (hB.mono (by omega))
    rcases hB with ⟨rfl, hB⟩ | ⟨hb1, hb2, hB⟩
    · rw [decide_eq_false (show ¬ x < 0 by omega), cond_false]
      simp only [dn, cond_true, Bool.false_or]
      exact hstay (hA.mono (by omega)) hB
    rw [decide_eq_false (show ¬ x < 0 by omega), decide_eq_false (show ¬ y < 0 by omega)]
    simp only [cond_false, Bool.or_false]
    have ex : w64 (x + 1) = x + 1 := zai (by omega) (by omega)
    have ey : w64 (y + 1) = y + 1 := zai (by omega) (by omega)
    have c1 := zcg o io i
    have c2 := zcg a ia x
    have c3 := zcg b ib y
    have hP1 := zkx hP (zgF (o := zbt o io i) (Nat.le_trans c2 ha) (Nat.le_trans c3 hb))
    have hS := zi4 (o := o) ha hb (i := i) (x := x) (y := y) (io := io) (ia := ia) (ib := ib) hP
    have hfin := zim ho ha hb hla hlb n (i + 1) m ((i + 1 : Nat) : Int) (x + 1) (y + 1) (zdz o a b i x y io ia ib out) (by omega) (by omega) hA hB (by omega) (by omega) (by omega) (by omega) (hS.mono (by omega))
    rw [zfg h0 h1 (by omega), Option.bind_some, zfg h2 ha1 (by omega), Option.bind_some, zfg h3 hb1 (by omega), Option.bind_some,
      show ((o.take ((i : Int)).toNat).drop io.toNat) = zbt o io i from rfl, show ((a.take x.toNat).drop ia.toNat) = zbt a ia x from rfl, show ((b.take y.toNat).drop ib.toNat) = zbt b ib y from rfl,
      zn9 (by omega) (by omega) (by omega), Option.bind_some]
    rw [show (⟨(zdi (zbt o io i) (zbt a ia x) (zbt b ib y)).Clash, (zdi (zbt o io i) (zbt a ia x) (zbt b ib y)).Lines, (zdi (zbt o io i) (zbt a ia x) (zbt b ib y)).Old, (zdi (zbt o io i) (zbt a ia x) (zbt b ib y)).One, (zdi (zbt o io i) (zbt a ia x) (zbt b ib y)).Two⟩ : Part) = zdi (zbt o io i) (zbt a ia x) (zbt b ib y) from rfl,
      zmv hP (by omega) (zgF (Nat.le_trans c2 ha) (Nat.le_trans c3 hb)), Option.bind_some]
    by_cases hio : i < o.length
    · have hs : o[i]? = some o[i] := List.getElem?_eq_getElem hio
      rw [decide_eq_true (by omega), cond_true, zad hs, Option.bind_some, show (⟨false, [o[i]], [], [], []⟩ : Part) = lnP [o[i]] from rfl, zmv hP1 (by omega) (by simp [lnP]), Option.bind_some, ex, ey]
      have hm : zdz o a b i x y io ia ib out = zkc (zkc out (zdi (zbt o io i) (zbt a ia x) (zbt b ib y))) (lnP [o[i]]) := by
        unfold zdz
        rw [show ((i : Int)).toNat = i by omega, hs]
      rw [← hm]
      exact hfin
    · rw [decide_eq_false (by omega), cond_false, ex, ey]
      have hm : zdz o a b i x y io ia ib out = zkc out (zdi (zbt o io i) (zbt a ia x) (zbt b ib y)) := by
        unfold zdz
        rw [show ((i : Int)).toNat = i by omega, List.getElem?_eq_none (by omega)]
      rw [← hm]
      exact hfin
theorem zgB (o a : List Str) : Asc ((a.length : Int) + 1) 0 (mt2 o a ++ [(a.length : Int)]) ∧ (mt2 o a ++ [(a.length : Int)]).length = o.length + 1 := by
  have h := zet o a
  exact ⟨Asc.snoc (by omega) (by omega) h.1, by simp [h.2]⟩
theorem zqH {o a b : List Str} (ho : o.length ≤ 1000) (ha : a.length ≤ 1000) (hb : b.length ≤ 1000) : zkh o a b = some (zbd o a b) := by
  obtain ⟨a1, a2⟩ := zgB o a
  obtain ⟨b1, b2⟩ := zgB o b
  have l1 := (zet o a).2
  have l2 := (zet o b).2
  unfold zkh
  rw [zhU ho ha, Option.bind_some, zm2 (by omega), Option.bind_some, zhU ho hb, Option.bind_some, zm2 (by omega), Option.bind_some]
  simp only [jn]
  have := zim ho ha hb a2 b2 (o.length + 1) 0 ((((mt2 o a ++ [(a.length : Int)]).length : Int) - 0).toNat + 1) 0 0 0 [] (by omega) (by omega) a1 b1 (by omega) (by omega) (by omega) (by omega) ⟨by simp, by simp⟩
  exact this
theorem zz6 {o : List Str} {i : Nat} {s : Str} (h : o[i]? = some s) : slM o (i : Int) ((i + 1 : Nat) : Int) = some [s] := by
  have hi := zas h
  rw [zfg (by omega) (by omega) (by omega)]
  congr 1
  rw [show (((i + 1 : Nat) : Int)).toNat = i + 1 by omega, show ((i : Int)).toNat = i by omega, List.drop_take, show i + 1 - i = 1 by omega, List.drop_eq_getElem_cons hi]
  rw [List.getElem?_eq_getElem hi] at h
  simp [Option.some.inj h]
theorem zkS {o a b : List Str} (ho : o.length ≤ 1000) (ha : a.length ≤ 1000) (hb : b.length ≤ 1000) {ma mb : List Int} (hla : ma.length = o.length + 1) (hlb : mb.length = o.length + 1) :
    ∀ (n i m : Nat) (io ia ib : Int) (out : List Part), i + n = o.length + 1 → n < m → Asc ((a.length : Int) + 1) ia (ma.drop i) → Asc ((b.length : Int) + 1) ib (mb.drop i) → 0 ≤ io → io ≤ i → 0 ≤ ia → 0 ≤ ib → PB (2 * i) out →
      zby o a b ma mb (fun _ _ _ _ y49 => some y49) m io ia ib (i : Int) out = some (zbF o a b i (ma.drop i) (mb.drop i) io ia ib out)
  | n, i, 0, _, _, _, _, _, hm, _, _, _, _, _, _, _ => by omega
  | 0, i, m + 1, io, ia, ib, out, hi, _, _, _, _, _, _, _, _ => by
    simp only [zby]
    rw [decide_eq_false (by omega), cond_false, List.drop_eq_nil_of_le (by omega), zbF.eq_def]
  | n + 1, i, m + 1, io, ia, ib, out, hi, hm, hA, hB, h0, h1, h2, h3, hP => by
    obtain ⟨x, hx⟩ : ∃ x, ma[i]? = some x := ⟨_, List.getElem?_eq_getElem (by omega)⟩
    obtain ⟨y, hy⟩ : ∃ y, mb[i]? = some y := ⟨_, List.getElem?_eq_getElem (by omega)⟩
    rw [zkR hx] at hA ⊢
    rw [zkR hy] at hB ⊢
    have ei : w64 ((i : Int) + 1) = ((i + 1 : Nat) : Int) := by rw [zai (by omega) (by omega)]; omega
    have ei' : (i : Int) + 1 = ((i + 1 : Nat) : Int) := by omega
    rw [ei'] at ei
    have dn : decide ((-1 : Int) < 0) = true := rfl
    have hstay : ∀ (hA' : Asc ((a.length : Int) + 1) ia (ma.drop (i + 1))) (hB' : Asc ((b.length : Int) + 1) ib (mb.drop (i + 1))), zby o a b ma mb (fun _ _ _ _ y49 => some y49) m io ia ib ((i + 1 : Nat) : Int) out = some (zbF o a b ((i + 1 : Nat) : Int) (ma.drop (i + 1)) (mb.drop (i + 1)) io ia ib out) :=
      fun hA' hB' => zkS ho ha hb hla hlb n (i + 1) m io ia ib out (by omega) (by omega) hA' hB' h0 (by omega) h2 h3 (hP.mono (by omega))
    rw [zbF]
    simp only [zby, jn, zad hx, zad hy, Option.bind_some, ei, ei', hla]
    rw [decide_eq_true (show (i : Int) < ((o.length + 1 : Nat) : Int) by omega), cond_true]
    rcases hA with ⟨rfl, hA⟩ | ⟨ha1, ha2, hA⟩
    · rcases hB with ⟨rfl, hB⟩ | ⟨hb1, hb2, hB⟩
      · simp only [dn, cond_true, Bool.true_or]; exact hstay hA hB
      · simp only [dn, cond_true, Bool.true_or]; exact hstay hA (hB.mono (by omega))
    rcases hB with ⟨rfl, hB⟩ | ⟨hb1, hb2, hB⟩
    · rw [decide_eq_false (show ¬ x < 0 by omega), cond_false]
      simp only [dn, cond_true, Bool.false_or]
      exact hstay (hA.mono (by omega)) hB
    rw [decide_eq_false (show ¬ x < 0 by omega), decide_eq_false (show ¬ y < 0 by omega)]
    simp only [cond_false, Bool.or_false]
    have ex : w64 (x + 1) = x + 1 := zai (by omega) (by omega)
    have ey : w64 (y + 1) = y + 1 := zai (by omega) (by omega)
    have c1 := zcg o io i
    have c2 := zcg a ia x
    have c3 := zcg b ib y
    have hP1 := zkx hP (zgF (o := zbt o io i) (Nat.le_trans c2 ha) (Nat.le_trans c3 hb))
    have hS := zi4 (o := o) ha hb (i := i) (x := x) (y := y) (io := io) (ia := ia) (ib := ib) hP
    have hfin := zkS ho ha hb hla hlb n (i + 1) m ((i + 1 : Nat) : Int) (x + 1) (y + 1) (zdz o a b i x y io ia ib out) (by omega) (by omega) hA hB (by omega) (by omega) (by omega) (by omega) (hS.mono (by omega))
    rw [zfg h0 h1 (by omega), Option.bind_some, zfg h2 ha1 (by omega), Option.bind_some, zfg h3 hb1 (by omega), Option.bind_some,
      show ((o.take ((i : Int)).toNat).drop io.toNat) = zbt o io i from rfl, show ((a.take x.toNat).drop ia.toNat) = zbt a ia x from rfl, show ((b.take y.toNat).drop ib.toNat) = zbt b ib y from rfl,
      zex (show (zbt a ia x).length ≤ maxi by unfold maxi; omega), Option.bind_some]
    -- what follows, of any out
    have hrest : ∀ q, q = zkc out (zdi (zbt o io i) (zbt a ia x) (zbt b ib y)) →
        (bif decide ((i : Int) < (o.length : Int)) then (slM o (i : Int) ((i + 1 : Nat) : Int)).bind fun q154 => (zdn q154 q).bind fun z158 => zby o a b ma mb (fun _ _ _ _ y49 => some y49) m ((i + 1 : Nat) : Int) (w64 (x + 1)) (w64 (y + 1)) ((i + 1 : Nat) : Int) z158
        else zby o a b ma mb (fun _ _ _ _ y49 => some y49) m ((i + 1 : Nat) : Int) (w64 (x + 1)) (w64 (y + 1)) ((i + 1 : Nat) : Int) q) =
        some (zbF o a b ((i + 1 : Nat) : Int) (ma.drop (i + 1)) (mb.drop (i + 1)) ((i + 1 : Nat) : Int) (x + 1) (y + 1) (zdz o a b i x y io ia ib out)) := by
      rintro q rfl
      rw [ex, ey]
      by_cases hio : i < o.length
      · have hs : o[i]? = some o[i] := List.getElem?_eq_getElem hio
        rw [decide_eq_true (by omega), cond_true, zz6 hs, Option.bind_some, c1_eq hP1 (by omega) (by simp), Option.bind_some]
        have hm : zdz o a b i x y io ia ib out = zkc (zkc out (zdi (zbt o io i) (zbt a ia x) (zbt b ib y))) (lnP [o[i]]) := by
          unfold zdz
          rw [show ((i : Int)).toNat = i by omega, hs]
        rw [← hm]
        exact hfin
      · rw [decide_eq_false (by omega), cond_false]
        have hm : zdz o a b i x y io ia ib out = zkc out (zdi (zbt o io i) (zbt a ia x) (zbt b ib y)) := by
          unfold zdz
          rw [show ((i : Int)).toNat = i by omega, List.getElem?_eq_none (by omega)]
        rw [← hm]
        exact hfin
    have hclash : apM out [(⟨true, [], zbt o io i, zbt a ia x, zbt b ib y⟩ : Part)] = some (out ++ [⟨true, [], zbt o io i, zbt a ia x, zbt b ib y⟩]) := zg3 (by have := hP.1; simp [lim]; omega)
    cases e1 : zbt a ia x == zbt o io i with
    | true =>
      rw [cond_true, cond_true, c1_eq hP (by omega) (by omega), Option.bind_some]
      exact hrest _ (by simp [zdi, e1])
    | false =>
      rw [cond_false, zex (show (zbt a ia x).length ≤ maxi by unfold maxi; omega), Option.bind_some]
      cases e2 : zbt a ia x == zbt b ib y with
      | true =>
        rw [cond_true, c1_eq hP (by omega) (by omega), Option.bind_some]
        exact hrest _ (by simp [zdi, e1, e2])
      | false =>
        rw [cond_false, zex (show (zbt b ib y).length ≤ maxi by unfold maxi; omega), Option.bind_some]
        cases e3 : zbt b ib y == zbt o io i with
        | true =>
          rw [cond_true, c1_eq hP (by omega) (by omega), Option.bind_some]
          exact hrest _ (by simp [zdi, e1, e2, e3])
        | false =>
          rw [cond_false, zaW (by omega), Option.bind_some, zaW (by omega), Option.bind_some, zaW (by omega), Option.bind_some, hclash, Option.bind_some]
          exact hrest _ (by simp [zdi, e1, e2, e3, zo0])
theorem zo1 {o a b : List Str} (ho : o.length ≤ 1000) (ha : a.length ≤ 1000) (hb : b.length ≤ 1000) : zij o a b = some (zbd o a b) := by
  obtain ⟨a1, a2⟩ := zgB o a
  obtain ⟨b1, b2⟩ := zgB o b
  have l1 := (zet o a).2
  have l2 := (zet o b).2
  unfold zij
  rw [zi2 ho ha, Option.bind_some, zm2 (by omega), Option.bind_some, zi2 ho hb, Option.bind_some, zm2 (by omega), Option.bind_some]
  simp only [jn]
  exact zkS ho ha hb a2 b2 (o.length + 1) 0 ((((mt2 o a ++ [(a.length : Int)]).length : Int) - 0).toNat + 1) 0 0 0 [] (by omega) (by omega) a1 b1 (by omega) (by omega) (by omega) (by omega) ⟨by simp, by simp⟩
end Go.Vm
namespace Go.Sx
open Go
end Go.Sx
namespace Go.Vm
open Go Go.Sx
set_option linter.unusedSimpArgs false
set_option linter.unusedVariables false
section
variable {o a b : List Str} {Q : Part → Prop}
theorem zmw {out : List Part} {p : Part} (h3 : ∀ q p : Part, Q q → Q p → q.Clash = false → p.Clash = false → Q ⟨q.Clash, q.Lines ++ p.Lines, q.Old, q.One, q.Two⟩) (h : ∀ q ∈ out, Q q) (hp : Q p) : ∀ q ∈ zkc out p, Q q := by
  have happ : ∀ q ∈ out ++ [p], Q q := fun q hq => by
    rcases List.mem_append.1 hq with h1 | h1
    · exact h q h1
    · rw [List.mem_singleton] at h1; rw [h1]; exact hp
  unfold zkc
  cases (!p.Clash && p.Lines.length == 0) with
  | true => exact h
  | false =>
    rw [cond_false]
    split
    · rename_i q hq
      cases hc : (!p.Clash && !q.Clash) with
      | false => exact happ
      | true =>
        simp only [Bool.and_eq_true, Bool.not_eq_true'] at hc
        rw [cond_true]
        intro r hr
        rcases List.mem_or_eq_of_mem_set hr with h1 | h1
        · exact h r h1
        · rw [h1]; exact h3 q p (h q (List.mem_of_getElem? hq)) hp hc.2 hc.1
    · exact happ
theorem zgJ (h1 : ∀ l h l' h' l'' h'', Q (zdi (zbt o l h) (zbt a l' h') (zbt b l'' h''))) (h2 : ∀ s ∈ o, Q (lnP [s]))
    (h3 : ∀ q p : Part, Q q → Q p → q.Clash = false → p.Clash = false → Q ⟨q.Clash, q.Lines ++ p.Lines, q.Old, q.One, q.Two⟩) : ∀ (ma mb : List Int) (i io ia ib : Int) (out : List Part), (∀ q ∈ out, Q q) → ∀ q ∈ zbF o a b i ma mb io ia ib out, Q q
  | [], mb, i, io, ia, ib, out, h => by rw [zbF.eq_def]; exact h
  | x :: ma, [], i, io, ia, ib, out, h => by rw [zbF.eq_def]; exact h
  | x :: ma, y :: mb, i, io, ia, ib, out, h => by
    rw [zbF]
    cases (decide (x < 0) || decide (y < 0)) with
    | true => exact zgJ h1 h2 h3 ma mb _ _ _ _ out h
    | false =>
      refine zgJ h1 h2 h3 ma mb _ _ _ _ _ ?_
      have hp := zmw h3 h (h1 io i ia x ib y)
      unfold zdz
      split
      · rename_i s hs
        exact zmw h3 hp (h2 s (List.mem_of_getElem? hs))
      · exact hp
theorem zm5 (h1 : ∀ l h l' h' l'' h'', Q (zdi (zbt o l h) (zbt a l' h') (zbt b l'' h''))) (h2 : ∀ s ∈ o, Q (lnP [s]))
    (h3 : ∀ q p : Part, Q q → Q p → q.Clash = false → p.Clash = false → Q ⟨q.Clash, q.Lines ++ p.Lines, q.Old, q.One, q.Two⟩) : ∀ q ∈ zbd o a b, Q q :=
  zgJ h1 h2 h3 _ _ _ _ _ _ [] (by simp)
theorem zf4 {α : Type} {xs : List α} {l h : Int} {x : α} (hx : x ∈ zbt xs l h) : x ∈ xs := List.mem_of_mem_take (List.mem_of_mem_drop hx)
theorem zkT {P : Str → Prop} (ho : ∀ s ∈ o, P s) (ha : ∀ s ∈ a, P s) (hb : ∀ s ∈ b, P s) : ∀ q ∈ zbd o a b, (∀ s ∈ q.Lines, P s) ∧ (∀ s ∈ q.Old, P s) ∧ (∀ s ∈ q.One, P s) ∧ (∀ s ∈ q.Two, P s) ∧ q.Old.length ≤ o.length ∧ q.One.length ≤ a.length ∧ q.Two.length ≤ b.length := by
  refine zm5 (fun l h l' h' l'' h'' => ?_) (fun s hs => ?_) (fun q p hq hp _ _ => ?_)
  · have c1 := zcg o l h
    have c2 := zcg a l' h'
    have c3 := zcg b l'' h''
    unfold zdi lnP
    cases (zbt a l' h' == zbt o l h || zbt a l' h' == zbt b l'' h'') with
    | true => exact ⟨fun s hs => hb s (zf4 hs), by simp, by simp, by simp, by simp, by simp, by simp⟩
    | false =>
      rw [cond_false]
      cases (zbt b l'' h'' == zbt o l h) with
      | true => exact ⟨fun s hs => ha s (zf4 hs), by simp, by simp, by simp, by simp, by simp, by simp⟩
      | false => exact ⟨by simp, fun s hs => ho s (zf4 hs), fun s hs => ha s (zf4 hs), fun s hs => hb s (zf4 hs), c1, c2, c3⟩
  · exact ⟨by simpa [lnP] using ho s hs, by simp [lnP], by simp [lnP], by simp [lnP], by simp [lnP], by simp [lnP], by simp [lnP]⟩
  · exact ⟨fun s hs => (List.mem_append.1 hs).elim (hq.1 s) (hp.1 s), hq.2⟩
theorem zm6 (ho : o.length ≤ 1000) (ha : a.length ≤ 1000) (hb : b.length ≤ 1000) : PB (2 * (o.length + 1)) (zbd o a b) := by
  have := zhV (o := o) ha hb (mt2 o a ++ [(a.length : Int)]) (mt2 o b ++ [(b.length : Int)]) 0 0 0 0 0 [] ⟨by simp, by simp⟩
  rw [(zgB o a).2] at this
  exact this.mono (by omega)
end
section
variable {xs : List Memo} {o a b : List Str}
def okT (t : List Str) : List Str × Bool := bif zav t then (t, true) else ([], false)
def zsO (i : Nat) (s : List Str) : Prop := s.length ≤ 22000 * i ∧ ∀ x ∈ s, zcP x = true
theorem zbS {s : List Str} (h : s.length ≤ 1000000) (hl : ∀ x ∈ s, zcP x = true) : Bk.fit s := ⟨by unfold maxi; omega, fun x hx => by have := zil (hl x hx); show x.length ≤ maxi; unfold maxi; omega⟩
theorem apT {s t : List Str} (h : s.length ≤ 1000000) (h' : t.length ≤ 1000000) : apM s t = some (s ++ t) := zg3 (by simp [lim]; omega)
theorem zkU (hto : zav o = true) (hta : zav a = true) (htb : zav b = true) : (zbd o a b).length ≤ 22 ∧ ∀ p ∈ zbd o a b, p.Lines.length ≤ 22000 ∧ (∀ x ∈ p.Lines, zcP x = true) ∧ zav p.Old = true ∧ zav p.One = true ∧ zav p.Two = true := by
  have lo := zam hto
  have la := zam hta
  have lb := zam htb
  have hP := zm6 (o := o) (a := a) (b := b) (by omega) (by omega) (by omega)
  refine ⟨Nat.le_trans hP.1 (by omega), fun p hp => ?_⟩
  obtain ⟨h1, h2, h3, h4, h5, h6, h7⟩ := zkT (P := fun s => zcP s = true) (zaS hto) (zaS hta) (zaS htb) p hp
  have hl := hP.2 p hp
  have mk : ∀ t : List Str, t.length ≤ 10 → (∀ s ∈ t, zcP s = true) → zav t = true := fun t h1 h2 => by
    unfold zav
    rw [decide_eq_false (by omega)]
    simp only [Bool.not_false, Bool.true_and, List.all_eq_true]
    exact h2
  exact ⟨by omega, h1, mk _ (by omega) h2, mk _ (by omega) h3, mk _ (by omega) h4⟩
end
def LB (n : Nat) (t : List Str) : Prop := t.length ≤ n ∧ ∀ s ∈ t, s.length ≤ 100
theorem LB.fit {n : Nat} {t : List Str} (h : LB n t) (hn : n ≤ 1000000) : Bk.fit t := ⟨by have := h.1; unfold maxi; omega, fun s hs => by have := h.2 s hs; show s.length ≤ maxi; unfold maxi; omega⟩
theorem LB.mono {n m : Nat} {t : List Str} (h : LB n t) (hm : n ≤ m) : LB m t := ⟨Nat.le_trans h.1 hm, h.2⟩
theorem zgK {α : Type} {f : α → Nat} {c : Nat} : ∀ {t : List α}, (∀ s ∈ t, f s ≤ c) → sumB f t ≤ c * t.length
  | [], _ => by simp [sumB]
  | x :: t, h => by
    have h1 := h x (by simp)
    have h2 := zgK (t := t) (fun s hs => h s (by simp [hs]))
    simp only [sumB, List.length_cons, Nat.mul_add, Nat.mul_one]
    omega
theorem LB.bulk {n : Nat} {t : List Str} (h : LB n t) : Bk.bulk t ≤ 101 * n := by
  have h1 : sumB Bk.bulk t ≤ 100 * t.length := zgK (f := fun s : Str => s.length) (c := 100) (fun s hs => h.2 s hs)
  have := h.1
  rw [zuc]
  omega
section
variable {r : l30Rd} {p : Int}
end
section
variable {o a b : List Str} {xs : List Memo}
def zrr (l : List Part) : List Part := l.filter (·.Clash)
end
open Go Go.Sx Go.Proofs
theorem za2 (a b : Str) : Op.bytesLess a b = decide (a < b) := bytesLess_eq a b
theorem zmx (a b : Str) : (decide (a ≤ b) || decide (b ≤ a)) = true := by
  rcases List.le_total a b with h | h <;> simp [h]
theorem zmy (a b c : Str) : decide (a ≤ b) = true → decide (b ≤ c) = true → decide (a ≤ c) = true := by
  simp only [decide_eq_true_eq]
  exact List.le_trans
theorem zao (a : Str) : ¬ a < a := List.lt_irrefl a
theorem za8 {a b c : Str} : a < b → b < c → a < c := List.lt_trans
theorem zbv {a b : Str} (h : a ≤ b) (hn : a ≠ b) : a < b := by
  rcases Decidable.em (a < b) with h1 | h1
  · exact h1
  · exact absurd (List.le_antisymm h (List.not_lt.1 h1)) hn
theorem zhI {a b : Str} : ¬ a < b ↔ b ≤ a := List.not_lt
def Asd (xs : List Str) : Prop := xs.Pairwise (· < ·)
theorem Asd.ext : ∀ {xs ys : List Str}, Asd xs → Asd ys → (∀ a, a ∈ xs ↔ a ∈ ys) → xs = ys
  | [], [], _, _, _ => rfl
  | [], y :: ys, _, _, h => by have := (h y).2 (by simp); simp at this
  | x :: xs, [], _, _, h => by have := (h x).1 (by simp); simp at this
  | x :: xs, y :: ys, hx, hy, h => by
    have hx' := List.pairwise_cons.1 hx
    have hy' := List.pairwise_cons.1 hy
    have e : x = y := by
      rcases List.mem_cons.1 ((h x).1 (by simp)) with e | hm
      · exact e
      · rcases List.mem_cons.1 ((h y).2 (by simp)) with e | hm2
        · exact e.symm
        · exact absurd (za8 (hy'.1 x hm) (hx'.1 y hm2)) (zao y)
    subst e
    have ht : ∀ a, a ∈ xs ↔ a ∈ ys := fun a => by
      constructor
      · intro ha
        rcases List.mem_cons.1 ((h a).1 (List.mem_cons_of_mem _ ha)) with e | hm
        · exact absurd (by rw [e] at ha; exact hx'.1 x ha) (zao x)
        · exact hm
      · intro ha
        rcases List.mem_cons.1 ((h a).2 (List.mem_cons_of_mem _ ha)) with e | hm
        · exact absurd (by rw [e] at ha; exact hy'.1 x ha) (zao x)
        · exact hm
    rw [Asd.ext hx'.2 hy'.2 ht]
theorem znL (l : List Str) : (zcH l).Pairwise (· ≤ ·) := by
  have := List.pairwise_mergeSort (le := fun x y : Str => decide (x ≤ y)) zmy zmx l
  exact this.imp (by simp)
theorem zjA {l : List Str} {a : Str} : a ∈ zcH l ↔ a ∈ l := List.mem_mergeSort
theorem zi5 : ∀ (l : List Str) (p : Option Str) (a : Str), a ∈ zdl p l ∨ some a = p ↔ a ∈ l ∨ some a = p
  | [], p, a => by simp [zdl]
  | x :: l, p, a => by
    have ih := zi5 l (some x) a
    unfold zdl
    by_cases hp : p = some x
    · rw [if_pos hp, hp]
      rw [ih]
      simp only [List.mem_cons, Option.some.injEq]
      constructor
      · rintro (h | h)
        · exact .inl (.inr h)
        · exact .inr h
      · rintro ((h | h) | h)
        · exact .inr h
        · exact .inl h
        · exact .inr h
    · rw [if_neg hp]
      simp only [List.mem_cons, Option.some.injEq] at ih ⊢
      constructor
      · rintro ((h | h) | h)
        · exact .inl (.inl h)
        · rcases ih.1 (.inl h) with h2 | h2
          · exact .inl (.inr h2)
          · exact .inl (.inl h2)
        · exact .inr h
      · rintro ((h | h) | h)
        · exact .inl (.inl h)
        · rcases ih.2 (.inl h) with h2 | h2
          · exact .inl (.inr h2)
          · exact .inl (.inl h2)
        · exact .inr h
theorem ziQ {l : List Str} {a : Str} : a ∈ znp l ↔ a ∈ l := by
  have := zi5 l none a
  simpa [znp] using this
theorem zfM : ∀ (l : List Str) (p : Option Str), l.Pairwise (· ≤ ·) → (∀ q, p = some q → ∀ a ∈ l, q ≤ a) → Asd (zdl p l) ∧ ∀ q, p = some q → ∀ a ∈ zdl p l, q < a
  | [], p, _, _ => by simp [zdl, Asd]
  | x :: l, p, h, hp => by
    have h' := List.pairwise_cons.1 h
    obtain ⟨i1, i2⟩ := zfM l (some x) h'.2 (fun q hq a ha => by cases hq; exact h'.1 a ha)
    unfold zdl
    by_cases hpx : p = some x
    · rw [if_pos hpx]
      exact ⟨i1, fun q hq a ha => by rw [hpx] at hq; exact i2 q hq a ha⟩
    · rw [if_neg hpx]
      refine ⟨List.pairwise_cons.2 ⟨fun a ha => i2 x rfl a ha, i1⟩, fun q hq a ha => ?_⟩
      have hqx : q < x := zbv (hp q hq x (by simp)) (fun e => hpx (by rw [hq, e]))
      rcases List.mem_cons.1 ha with e | e
      · rw [e]; exact hqx
      · exact za8 hqx (i2 x rfl a e)
def zfF (xs : List Str) (s : Str) : List Str := znp (zcH (xs ++ [s]))
theorem zch (xs : List Str) (s : Str) : Asd (zfF xs s) := (zfM _ none (znL _) (fun q hq => by cases hq)).1
theorem insS_mem {xs : List Str} {s a : Str} : a ∈ zfF xs s ↔ a ∈ xs ∨ a = s := by
  unfold zfF
  rw [ziQ, zjA, List.mem_append, List.mem_singleton]
theorem zf5 : ∀ (zs : List Str) (p : Option Str), (zdl p zs).length ≤ zs.length
  | [], p => by simp [zdl]
  | x :: l, p => by
    have := zf5 l (some x)
    unfold zdl
    split <;> simp <;> omega
theorem zcL (xs : List Str) (s : Str) : (zfF xs s).length ≤ xs.length + 1 := by
  have := zf5 (zcH (xs ++ [s])) none
  unfold zfF znp
  have h2 : (zcH (xs ++ [s])).length = (xs ++ [s]).length := List.length_mergeSort _
  rw [h2] at this
  simpa using this
def zhW (c : UInt8) : Bool := (decide (97 ≤ (c.toNat : Int)) && decide ((c.toNat : Int) ≤ 122)) || (decide (48 ≤ (c.toNat : Int)) && decide ((c.toNat : Int) ≤ 57))
def zaC (s : Str) : Bool := (decide (1 ≤ (s.length : Int)) && decide ((s.length : Int) ≤ 6)) && s.all zhW
theorem zjV (c : UInt8) : zeH c = some (zhW c) := by
  unfold zeH zhW
  simp only [jn]
  cases decide (97 ≤ (c.toNat : Int)) <;> cases decide ((c.toNat : Int) ≤ 122) <;> cases decide (48 ≤ (c.toNat : Int)) <;> cases decide ((c.toNat : Int) ≤ 57) <;> rfl
theorem zff (a b c : Int) : zfj a b c = some (decide (b ≤ a) && decide (a ≤ c)) := by
  unfold zfj
  simp only [jn]
  cases decide (b ≤ a) <;> rfl
theorem zeP (a b c : Int) : zeE a b c = some (decide (b ≤ a) && decide (a ≤ c)) := by
  unfold zeE
  simp only [jn]
  cases decide (b ≤ a) <;> rfl
theorem zbG {s : Str} (h : s.length ≤ maxi) : zc4 s = some (zaC s) := by
  unfold zc4 zaC
  simp only [jn, zal, zff, Option.bind_some]
  cases (decide (1 ≤ (s.length : Int)) && decide ((s.length : Int) ≤ 6))
  case false => rfl
  simp only [Bool.not_true, cond_false, Bool.true_and]
  rw [za3 (α := UInt8) (xs := s) (p := zhW) (r0 := some false) (Z := some true) (f := fun m i => zcw s (fun _ _ => some true) m false i) (fun m i x hx => by
    simp only [zcw, jn, zak hx, zic hx, cond_true, Option.bind_some, zab (zas hx) h, zjV]
    cases zhW x <;> rfl) (fun m => by simp only [zcw, zac, cond_false]) (by omega)]
  cases s.all zhW <;> rfl
theorem zq0 (a b : Int) : decide (a < b) = !decide (b ≤ a) := by
  by_cases h : a < b
  · rw [decide_eq_true h, decide_eq_false (by omega)]; rfl
  · rw [decide_eq_false h, decide_eq_true (by omega)]; rfl
theorem zbf {s : Str} (h : s.length ≤ maxi) : zcm s = some (zaC s) := by
  unfold zcm zaC
  simp only [jn, zal, zeP, Option.bind_some]
  rw [za3 (α := UInt8) (xs := s) (p := zhW) (r0 := some false) (Z := some (decide (1 ≤ (s.length : Int)) && decide ((s.length : Int) ≤ 6))) (f := fun m i => zcs s (fun _ _ => some (decide (1 ≤ (s.length : Int)) && decide ((s.length : Int) ≤ 6))) m false i) (fun m i x hx => by
    simp only [zcs, jn, zak hx, zic hx, cond_true, Option.bind_some, zab (zas hx) h, zq0, zhW]
    cases decide (97 ≤ (x.toNat : Int)) <;> cases decide ((x.toNat : Int) ≤ 122) <;> cases decide (48 ≤ (x.toNat : Int)) <;> cases decide ((x.toNat : Int) ≤ 57) <;> rfl) (fun m => by simp only [zcs, zac, cond_false]) (by omega)]
  cases s.all zhW <;> cases (decide (1 ≤ (s.length : Int)) && decide ((s.length : Int) ≤ 6)) <;> rfl
def ahd (s : Str) : List Str → Nat
  | [] => 0
  | x :: xs => bif Op.bytesLess x s then ahd s xs + 1 else 0
theorem zoD (s : Str) : ∀ xs, ahd s xs ≤ xs.length
  | [] => Nat.le_refl _
  | x :: xs => by
    have := zoD s xs
    unfold ahd
    cases Op.bytesLess x s
    · simp
    · simp only [cond_true, List.length_cons]; omega
theorem zkG (s : Str) : ∀ (xs : List Str) x, x ∈ xs.take (ahd s xs) → x < s
  | [], x, h => by simp at h
  | y :: xs, x, h => by
    unfold ahd at h
    cases hy : Op.bytesLess y s with
    | false => rw [hy] at h; simp at h
    | true =>
      rw [hy, cond_true, List.take_succ_cons] at h
      rcases List.mem_cons.1 h with e | e
      · rw [e]; rw [za2] at hy; simpa using hy
      · exact zkG s xs x e
theorem zoE (s : Str) : ∀ (xs : List Str) x, xs[ahd s xs]? = some x → s ≤ x
  | [], x, h => by simp at h
  | y :: xs, x, h => by
    unfold ahd at h
    cases hy : Op.bytesLess y s with
    | false =>
      rw [hy, cond_false] at h
      have e : y = x := by simpa using h
      rw [← e]
      rw [za2] at hy
      exact zhI.1 (by simpa using hy)
    | true =>
      rw [hy, cond_true] at h
      exact zoE s xs x (by simpa using h)
theorem zq1 {xs : List Str} {s : Str} (hl : xs.length ≤ 1000000) {K : Int → Option (List Str)} : ∀ (n i m : Nat), i + n = xs.length → n < m → (∀ j, j < i → ∃ x, xs[j]? = some x ∧ x < s) → zc2 xs s K m (i : Int) = K ((i + ahd s (xs.drop i) : Nat) : Int)
  | n, i, 0, _, hm, _ => by omega
  | 0, i, m + 1, hi, _, _ => by
    simp only [zc2, jn]
    rw [decide_eq_false (by omega), cond_false, cond_false, List.drop_eq_nil_of_le (by omega)]
    rfl
  | n + 1, i, m + 1, hi, hm, hall => by
    have hlt : i < xs.length := by omega
    have hx : xs[i]? = some xs[i] := List.getElem?_eq_getElem hlt
    simp only [zc2, jn]
    rw [decide_eq_true (by omega), cond_true, zad hx, Option.bind_some, List.drop_eq_getElem_cons hlt]
    unfold ahd
    cases hb : Op.bytesLess xs[i] s with
    | false => rw [cond_false, cond_false]; rfl
    | true =>
      rw [cond_true, cond_true, zab hlt (by unfold maxi; omega)]
      rw [zq1 hl n (i + 1) m (by omega) (by omega) (fun j hj => by
        rcases Nat.lt_or_ge j i with h1 | h1
        · exact hall j h1
        · have : j = i := by omega
          subst this
          exact ⟨_, hx, by rw [za2] at hb; simpa using hb⟩)]
      congr 2
      omega
theorem zhy {xs : List Str} {s : Str} (hl : xs.length ≤ 1000000) (ha : Asd xs) : zdX xs s = some (zfF xs s) := by
  unfold zdX
  simp only [jn]
  have h1 := zq1 (s := s) hl (K := fun y1 => bif decide (y1 < (xs.length : Int)) then (gi xs y1).bind fun u52 => bif u52 == s then some xs else (slM xs 0 y1).bind fun q19 => (apM [] q19).bind fun q24 => (apM q24 [s]).bind fun q31 => (slM xs y1 (xs.length : Int)).bind fun q36 => (apM q31 q36).bind fun q41 => some q41
      else bif false then some xs else (slM xs 0 y1).bind fun q19 => (apM [] q19).bind fun q24 => (apM q24 [s]).bind fun q31 => (slM xs y1 (xs.length : Int)).bind fun q36 => (apM q31 q36).bind fun q41 => some q41) xs.length 0 (xs.length + 1) (by omega) (by omega) (fun j hj => by omega)
  have hk := zoD s xs
  simp only [Nat.zero_add, List.drop_zero] at h1
  refine h1.trans ?_
  -- the list with s in its place
  have hput : (slM xs 0 ((ahd s xs : Nat) : Int)).bind (fun q19 => (apM [] q19).bind fun q24 => (apM q24 [s]).bind fun q31 => (slM xs ((ahd s xs : Nat) : Int) (xs.length : Int)).bind fun q36 => (apM q31 q36).bind fun q41 => some q41) = some (xs.take (ahd s xs) ++ [s] ++ xs.drop (ahd s xs)) := by
    have hlt : (xs.take (ahd s xs)).length ≤ xs.length := by simp; omega
    rw [zg7 hk, Option.bind_some, apN (by omega), Option.bind_some, ap1 (by omega), Option.bind_some, zlP hk, Option.bind_some, zg3 (by simp [lim]; omega), Option.bind_some]
  have hmem : ∀ a, a ∈ xs.take (ahd s xs) ++ [s] ++ xs.drop (ahd s xs) ↔ a ∈ xs ∨ a = s := fun a => by
    have : a ∈ xs ↔ a ∈ xs.take (ahd s xs) ∨ a ∈ xs.drop (ahd s xs) := by rw [← List.mem_append, List.take_append_drop]
    rw [this]
    simp only [List.mem_append, List.mem_singleton]
    constructor
    · rintro ((h | h) | h)
      · exact .inl (.inl h)
      · exact .inr h
      · exact .inl (.inr h)
    · rintro ((h | h) | h)
      · exact .inl (.inl h)
      · exact .inr h
      · exact .inl (.inr h)
  have hfin : (∀ x ∈ xs.drop (ahd s xs), s < x) → some (xs.take (ahd s xs) ++ [s] ++ xs.drop (ahd s xs)) = some (zfF xs s) := by
    intro hd
    congr 1
    refine Asd.ext ?_ (zch _ _) (fun a => by rw [hmem, insS_mem])
    have ha' := ha
    rw [← List.take_append_drop (ahd s xs) xs] at ha'
    obtain ⟨p1, p2, p3⟩ := List.pairwise_append.1 ha'
    refine List.pairwise_append.2 ⟨List.pairwise_append.2 ⟨p1, List.pairwise_singleton _ _, fun a h b hb => ?_⟩, p2, fun a h b hb => ?_⟩
    · rw [List.mem_singleton] at hb; rw [hb]; exact zkG s xs a h
    · rcases List.mem_append.1 h with h2 | h2
      · exact p3 a h2 b hb
      · rw [List.mem_singleton] at h2; rw [h2]; exact hd b hb
  by_cases hlt : ahd s xs < xs.length
  · have hx : xs[ahd s xs]? = some xs[ahd s xs] := List.getElem?_eq_getElem hlt
    have hge := zoE s xs _ hx
    rw [decide_eq_true (by omega), cond_true, zad hx, Option.bind_some]
    cases he : xs[ahd s xs] == s with
    | true =>
      have e : xs[ahd s xs] = s := by simpa using he
      rw [cond_true]
      congr 1
      exact Asd.ext ha (zch _ _) (fun a => by
        rw [insS_mem]
        constructor
        · exact .inl
        · rintro (h | h)
          · exact h
          · rw [h, ← e]; exact List.getElem_mem hlt)
    | false =>
      have e : s ≠ xs[ahd s xs] := fun e => by rw [← e] at he; simp at he
      rw [cond_false, hput]
      refine hfin (fun x hx2 => ?_)
      rw [List.drop_eq_getElem_cons hlt] at hx2
      have hs1 : s < xs[ahd s xs] := zbv hge e
      rcases List.mem_cons.1 hx2 with h2 | h2
      · rw [h2]; exact hs1
      · have hp : Asd (xs.drop (ahd s xs)) := List.Pairwise.sublist (List.drop_sublist _ _) ha
        rw [List.drop_eq_getElem_cons hlt] at hp
        exact za8 hs1 ((List.pairwise_cons.1 hp).1 x h2)
  · rw [decide_eq_false (by omega), cond_false, cond_false, hput]
    refine hfin (fun x hx2 => ?_)
    rw [List.drop_eq_nil_of_le (by omega)] at hx2
    simp at hx2
def RB (n : Nat) (v : Review) : Prop := v.Branch.length ≤ 4 ∧ v.Into.length ≤ 4 ∧ v.By.length ≤ 4 ∧ LB n v.Yes
theorem RB.fit {n : Nat} {v : Review} (h : RB n v) (hn : n ≤ 1000) : Bk.fit v :=
  ⟨by have := h.1; show v.Branch.length ≤ maxi; unfold maxi; omega, by have := h.2.1; show v.Into.length ≤ maxi; unfold maxi; omega, by have := h.2.2.1; show v.By.length ≤ maxi; unfold maxi; omega, h.2.2.2.fit (by omega)⟩
def curS (c : UInt8) : Str → Str → List Str
  | w, [] => [w]
  | w, x :: r => bif x == c then w :: curS c [] r else curS c (w ++ [x]) r
def zd2 (c : UInt8) : Nat → Str → Str → List Str
  | _, w, [] => [w]
  | 0, w, x :: r => [w ++ x :: r]
  | n + 1, w, x :: r => bif x == c then w :: zd2 c n [] r else zd2 c (n + 1) (w ++ [x]) r
theorem zkH (c : UInt8) : ∀ (r w : Str), 1 ≤ (curS c w r).length
  | [], w => by simp [curS]
  | x :: r, w => by
    unfold curS
    cases x == c
    · exact zkH c r _
    · simp
theorem zd8 (c : UInt8) (w r : Str) : zd2 c 0 w r = [w ++ r] := by
  cases r <;> simp [zd2]
theorem zdj (c : UInt8) : ∀ (r : Str) (n : Nat) (w : Str), (curS c w r).length ≤ n + 1 → zd2 c n w r = curS c w r
  | [], n, w, h => by cases n <;> simp [zd2, curS]
  | x :: r, 0, w, h => by
    unfold curS at h ⊢
    cases hx : x == c with
    | true =>
      rw [hx, cond_true] at h
      have := zkH c r []
      rw [List.length_cons] at h
      omega
    | false =>
      rw [hx, cond_false] at h
      have ih := zdj c r 0 (w ++ [x]) h
      rw [cond_false, ← ih, zd8, zd8]
      simp
  | x :: r, n + 1, w, h => by
    unfold curS at h ⊢
    unfold zd2
    cases hx : x == c with
    | true =>
      rw [hx, cond_true, List.length_cons] at h
      rw [cond_true, cond_true, zdj c r n [] (by omega)]
    | false =>
      rw [hx, cond_false] at h
      rw [cond_false, cond_false, zdj c r (n + 1) _ h]
theorem zez (c : UInt8) : ∀ (r : Str) (n : Nat) (w : Str), n + 1 ≤ (curS c w r).length → (zd2 c n w r).length = n + 1
  | [], n, w, h => by
    simp [curS] at h
    subst h
    simp [zd2]
  | x :: r, 0, w, h => by simp [zd2]
  | x :: r, n + 1, w, h => by
    unfold curS at h
    unfold zd2
    cases hx : x == c with
    | true =>
      rw [hx, cond_true, List.length_cons] at h
      rw [cond_true, List.length_cons, zez c r n [] (by omega)]
    | false =>
      rw [hx, cond_false] at h
      rw [cond_false, zez c r (n + 1) _ h]
theorem zkV {c : UInt8} {w : Str} (h : c ∉ w) : Lib.index w [c] = -1 := Lib.index_none fun j hj => by
  cases ho : Lib.occAt w [c] j with
  | false => rfl
  | true => exact absurd (List.mem_of_getElem? (Lib.occAt_head rfl ho)) h
theorem zmz {c : UInt8} {w r : Str} (h : c ∉ w) : Lib.index (w ++ c :: r) [c] = ((w.length : Nat) : Int) := Lib.index_first (by simp) (by simp [Lib.occAt, List.isPrefixOf]) fun j hj => by
  cases ho : Lib.occAt (w ++ c :: r) [c] j with
  | false => rfl
  | true =>
    have := Lib.occAt_head rfl ho
    rw [List.getElem?_append_left hj] at this
    exact absurd (List.mem_of_getElem? this) h
theorem zf6 (c : UInt8) : ∀ (r w : Str), c ∉ w → Lib.split (w ++ r) [c] = curS c w r
  | [], w, h => by
    unfold Lib.split curS
    rw [List.append_nil, Lib.count_miss (zkV h)]
    rfl
  | x :: r, w, h => by
    unfold curS
    cases hx : x == c with
    | true =>
      have e : x = c := by simpa using hx
      subst e
      have hi := zmz (r := r) h
      rw [cond_true]
      have ih := zf6 x r [] (by simp)
      unfold Lib.split at ih ⊢
      have hd : (w ++ x :: r).drop (w.length + 1) = r := by
        rw [show w ++ x :: r = (w ++ [x]) ++ r by simp, List.drop_left' (by simp)]
      have hc : Lib.count (w ++ x :: r) [x] = Lib.count r [x] + 1 := by
        rw [Lib.count_hit (by simp) hi]
        show 1 + Lib.count ((w ++ x :: r).drop (w.length + 1)) [x] = _
        rw [hd]
        omega
      rw [hc]
      unfold Lib.splitK
      rw [if_neg (by rw [hi]; simp), hi]
      have e1 : (w ++ x :: r).take (((w.length : Nat) : Int).toNat + 0) = w := by simp
      have e2 : (w ++ x :: r).drop (((w.length : Nat) : Int).toNat + [x].length) = r := hd
      rw [e1, e2]
      simp only [List.nil_append] at ih
      rw [ih]
    | false =>
      have hne : x ≠ c := by simpa using hx
      rw [cond_false, show w ++ x :: r = (w ++ [x]) ++ r by simp]
      exact zf6 c r (w ++ [x]) (by
        rw [List.mem_append, List.mem_singleton]
        rintro (h1 | h1)
        · exact h h1
        · exact hne h1.symm)
theorem znT (c : UInt8) (s : Str) : Lib.split s [c] = curS c [] s := zf6 c s [] (by simp)
theorem zlF (u c : UInt8) : (((UInt8.toNat u : Nat) : Int) == ((UInt8.toNat c : Nat) : Int)) = (u == c) := by
  have : ∀ b c : Bool, (b = true ↔ c = true) → b = c := by decide
  apply this
  rw [beq_iff_eq, beq_iff_eq, ← UInt8.toNat_inj]
  omega
theorem zmA {s : Str} {c : UInt8} {most : Nat} (hs : s.length ≤ 1048576) (hm : most ≤ 1000) : ∀ (n : Nat) (out : List Str) (from_ i m : Nat), i + n = s.length → n < m → from_ ≤ i → out.length ≤ most →
    zeF s c (most : Int) (fun y3 y6 y7 => (slM s y6 (s.length : Int)).bind fun q38 => (apM y3 [q38]).bind fun q43 => some q43) m out (from_ : Int) (i : Int) = some (out ++ zd2 c (most - out.length) ((s.take i).drop from_) (s.drop i))
  | n, out, f, i, 0, _, hm, _, _ => by omega
  | n, out, f, i, m + 1, hi, hn, hf, ho => by
    have hdone : (slM s (f : Int) (s.length : Int)).bind (fun q38 => (apM out [q38]).bind fun q43 => some q43) = some (out ++ [s.drop f]) := by
      rw [zlP (by omega), Option.bind_some, ap1 (by omega), Option.bind_some]
    have hw : (s.take i).drop f ++ s.drop i = s.drop f := by
      rw [← List.drop_append_of_le_length (by simp; omega), List.take_append_drop]
    simp only [zeF, jn]
    by_cases h1 : (i : Int) < (s.length : Int)
    case neg =>
      rw [decide_eq_false h1, cond_false, cond_false, hdone]
      have : s.drop i = [] := List.drop_eq_nil_of_le (by omega)
      rw [this] at hw ⊢
      rw [List.append_nil] at hw
      rw [hw]
      cases most - out.length <;> simp [zd2]
    rw [decide_eq_true h1, cond_true]
    have hlt : i < s.length := by omega
    have hx : s[i]? = some s[i] := List.getElem?_eq_getElem hlt
    by_cases h2 : (out.length : Int) < (most : Int)
    case neg =>
      rw [decide_eq_false h2, cond_false, hdone]
      have : most - out.length = 0 := by omega
      rw [this, zd8, hw]
    obtain ⟨n, rfl⟩ : ∃ k, n = k + 1 := ⟨n - 1, by omega⟩
    obtain ⟨k, hk⟩ : ∃ k, most - out.length = k + 1 := ⟨most - out.length - 1, by omega⟩
    rw [decide_eq_true h2, cond_true, zic hx, Option.bind_some, zlF, hk, List.drop_eq_getElem_cons hlt]
    unfold zd2
    cases hb : s[i] == c with
    | true =>
      rw [cond_true, cond_true, zfg (by omega) (by omega) (by omega), Option.bind_some, ap1 (by omega), Option.bind_some, zab hlt (by unfold maxi; omega), zmA hs hm n _ (i + 1) (i + 1) m (by omega) (by omega) (by omega) (by simp; omega)]
      have e1 : most - (out ++ [((s.take ((i : Nat) : Int).toNat)).drop ((f : Nat) : Int).toNat]).length = k := by simp; omega
      have e2 : (s.take (i + 1)).drop (i + 1) = [] := List.drop_eq_nil_of_le (by simp; omega)
      rw [e1, e2]
      simp
    | false =>
      rw [cond_false, cond_false, zab hlt (by unfold maxi; omega), zmA hs hm n _ f (i + 1) m (by omega) (by omega) (by omega) ho, hk]
      have e2 : (s.take (i + 1)).drop f = (s.take i).drop f ++ [s[i]] := by
        rw [List.take_add_one, hx]
        rw [List.drop_append_of_le_length (by simp; omega)]
        rfl
      rw [e2]
theorem znU {s : Str} {c : UInt8} {most : Nat} (hs : s.length ≤ 1048576) (hm : most ≤ 1000) : zhH s c (most : Int) = some (zd2 c most [] s) := by
  unfold zhH
  simp only [jn]
  have := zmA (c := c) (most := most) hs hm s.length [] 0 0 (s.length + 1) (by omega) (by omega) (Nat.le_refl _) (by simp)
  simpa using this
def zaL (s : Str) : Bool := decide ((curS 47 [] s).length ≤ 3) && (curS 47 [] s).all zaC
theorem zh2 (c : UInt8) : ∀ (r w : Str), ∀ p ∈ curS c w r, p.length ≤ w.length + r.length
  | [], w, p, h => by simp [curS] at h; rw [h]; omega
  | x :: r, w, p, h => by
    unfold curS at h
    cases hx : x == c with
    | true =>
      rw [hx, cond_true] at h
      rcases List.mem_cons.1 h with e | e
      · rw [e]; omega
      · have := zh2 c r [] p e
        simp at this ⊢
        omega
    | false =>
      rw [hx, cond_false] at h
      have := zh2 c r (w ++ [x]) p h
      simp at this ⊢
      omega
theorem zfN (c : UInt8) : ∀ (r w : Str), (curS c w r).length ≤ r.length + 1
  | [], w => by simp [curS]
  | x :: r, w => by
    unfold curS
    cases x == c
    · have := zfN c r (w ++ [x]); simp at this ⊢; omega
    · have := zfN c r []; simp at this ⊢; omega
theorem zbP {s : Str} (h : s.length ≤ 1048576) : zeu s = some (zaL s) := by
  unfold zeu strings_Split zaL
  rw [if_pos ⟨by omega, by simp⟩, Option.bind_some, znT]
  have hl := zfN 47 s []
  by_cases h3 : (3 : Int) < ((curS 47 [] s).length : Int)
  · rw [decide_eq_true h3, cond_true, decide_eq_false (by omega)]; rfl
  rw [decide_eq_false h3, cond_false, decide_eq_true (by omega), Bool.true_and]
  simp only [jn, zal]
  rw [za3 (α := Str) (xs := curS 47 [] s) (p := zaC) (r0 := some false) (Z := some true) (f := fun m i => zcz (curS 47 [] s) (fun _ _ => some true) m false i) (fun m i x hx => by
    have hf := zh2 47 s [] x (List.mem_of_getElem? hx)
    simp only [zcz, zak hx, zad hx, cond_true, Option.bind_some, zab (zas hx) (show (curS 47 [] s).length ≤ maxi by unfold maxi; omega), zbG (show x.length ≤ maxi by unfold maxi; simp at hf; omega)]
    cases zaC x <;> rfl) (fun m => by simp only [zcz, zac, cond_false]) (by omega)]
  cases (curS 47 [] s).all zaC <;> rfl
theorem zhz (c : UInt8) : ∀ (r : Str) (n : Nat) (w : Str), ∀ p ∈ zd2 c n w r, p.length ≤ w.length + r.length
  | [], n, w, p, h => by cases n <;> simp [zd2] at h <;> rw [h] <;> omega
  | x :: r, 0, w, p, h => by simp [zd2] at h; rw [h]; simp
  | x :: r, n + 1, w, p, h => by
    unfold zd2 at h
    cases hx : x == c with
    | true =>
      rw [hx, cond_true] at h
      rcases List.mem_cons.1 h with e | e
      · rw [e]; omega
      · have := zhz c r n [] p e
        simp at this ⊢
        omega
    | false =>
      rw [hx, cond_false] at h
      have := zhz c r (n + 1) (w ++ [x]) p h
      simp at this ⊢
      omega
theorem zdV {s : Str} (h : s.length ≤ 1048576) : zcZ s = some (zaL s) := by
  unfold zcZ zaL
  have e47 : (UInt8.ofNatLT 47 (by decide) : UInt8) = 47 := by decide
  have hc := znU (c := UInt8.ofNatLT 47 (by decide)) (most := 3) h (by omega)
  rw [show (3 : Int) = ((3 : Nat) : Int) from rfl, hc, Option.bind_some, e47]
  simp only [jn, zal]
  have hlen : (zd2 47 3 [] s).length ≤ maxi := by
    rcases Nat.lt_or_ge (curS 47 [] s).length 4 with h1 | h1
    · rw [zdj 47 s 3 [] (by omega)]; unfold maxi; omega
    · rw [zez 47 s 3 [] h1]; unfold maxi; omega
  rw [za3 (α := Str) (xs := zd2 47 3 [] s) (p := zaC) (r0 := some false) (Z := some (decide (((zd2 47 3 [] s).length : Int) ≤ ((3 : Nat) : Int)))) (f := fun m i => zct (zd2 47 3 [] s) (fun _ _ => some (decide (((zd2 47 3 [] s).length : Int) ≤ ((3 : Nat) : Int)))) m false i) (fun m i x hx => by
    have hf := zhz 47 s 3 [] x (List.mem_of_getElem? hx)
    simp only [zct, zak hx, zad hx, cond_true, Option.bind_some, zab (zas hx) hlen, zbf (show x.length ≤ maxi by unfold maxi; simp at hf; omega)]
    cases zaC x <;> rfl) (fun m => by simp only [zct, zac, cond_false]) (by omega)]
  rcases Nat.lt_or_ge (curS 47 [] s).length 4 with h1 | h1
  · rw [zdj 47 s 3 [] (by omega), decide_eq_true (show ((curS 47 [] s).length : Int) ≤ ((3 : Nat) : Int) by omega), decide_eq_true (show (curS 47 [] s).length ≤ 3 by omega)]
    cases (curS 47 [] s).all zaC <;> rfl
  · rw [zez 47 s 3 [] h1, decide_eq_false (show ¬ (curS 47 [] s).length ≤ 3 by omega)]
    cases (zd2 47 3 [] s).all zaC <;> rfl
theorem zg4 (a b : Str) : (Op.bytesLess a b || a == b) = !Op.bytesLess b a := by
  rw [za2, za2]
  by_cases h : b < a
  · have h1 : ¬ a < b := fun h2 => zao a (za8 h2 h)
    have h2 : ¬ a = b := fun e => by rw [e] at h; exact zao b h
    simp [h, h1, h2]
  · by_cases e : a = b
    · simp [h, e]
    · have := zbv (zhI.1 h) e
      simp [h, this]
def OB (xs : List Owner) : Prop := xs.length ≤ 1048576 ∧ ∀ x ∈ xs, x.Path.length ≤ 1048576 ∧ x.Who.length ≤ 1048576
theorem OB.of {xs : List Owner} (h : Bk.bulk xs ≤ 1048576) : OB xs := ⟨zcr h, fun x hx => by
  have h1 : Bk.bulk x ≤ 1048576 := zhG h hx
  have h2 : Bk.bulk x = x.Path.length + x.Who.length := rfl
  omega⟩
theorem OB.at_ {xs : List Owner} (h : OB xs) {i : Nat} {x : Owner} (hx : xs[i]? = some x) : x.Path.length ≤ 1048576 ∧ x.Who.length ≤ 1048576 := h.2 x (List.mem_of_getElem? hx)
def za5 (d p : Str) : Bool := (d ++ [47]).isPrefixOf p
theorem zjD {d p : Str} (hd : d.length ≤ 1048576) (hp : p.length ≤ 1048576) (h1 : zaL d = true) (h2 : zaL p = true) : zbY d p = some (za5 d p) := by
  unfold zbY strings_HasPrefix za5
  have hs : saM d ([47] : Str) = some (d ++ [47]) := by
    unfold saM
    rw [if_pos]
    simp only [List.length_cons, List.length_nil, lim]
    omega
  simp only [jn, zbP hd, zbP hp, h1, h2, Option.bind_some, cond_true, hs, Lib.hasPrefix]
theorem zf7 {c : UInt8} : ∀ {d p : Str}, (d ++ [c]).isPrefixOf p = (p.take d.length == d && p[d.length]? == some c)
  | [], [] => by simp
  | [], x :: p => by
    by_cases e : c = x
    · subst e; simp [List.isPrefixOf]
    · have e1 : (c == x) = false := beq_false_of_ne e
      have e2 : ((some x : Option UInt8) == some c) = false := beq_false_of_ne (fun h => e (Option.some.inj h).symm)
      simp only [List.nil_append, List.isPrefixOf, e1, List.length_nil, List.take_zero, List.getElem?_cons_zero, e2, Bool.false_and, Bool.and_false]
  | y :: d, [] => by simp [List.isPrefixOf]
  | y :: d, x :: p => by
    have ih := zf7 (c := c) (d := d) (p := p)
    simp only [List.cons_append, List.isPrefixOf, List.length_cons, List.take_succ_cons, List.getElem?_cons_succ, ih]
    by_cases e : y = x
    · subst e
      simp
    · have e1 : (y == x) = false := beq_false_of_ne e
      have e2 : (x == y) = false := beq_false_of_ne (fun h => e h.symm)
      simp [e1, e2]
theorem zkW {d p : Str} (hp : p.length ≤ 1048576) : zhl d p = some (za5 d p) := by
  unfold zhl za5
  simp only [jn]
  rw [zf7]
  by_cases hl : (d.length : Int) < (p.length : Int)
  · have hlt : d.length < p.length := by omega
    have hx : p[d.length]? = some p[d.length] := List.getElem?_eq_getElem hlt
    rw [decide_eq_true hl, cond_true, zg7 (by omega), Option.bind_some, hx]
    cases p.take d.length == d with
    | false => rfl
    | true =>
      rw [cond_true, zic hx, Option.bind_some, Bool.true_and]
      congr 1
      have := (show ∀ u : UInt8, (((UInt8.toNat u : Nat) : Int) == (47 : Int)) = (some u == some (47 : UInt8)) from fun u => by
        have hb := zlF u 47
        rw [show (((UInt8.toNat (47 : UInt8) : Nat) : Int)) = 47 from rfl] at hb
        rw [hb]
        simp)
      exact this _
  · rw [decide_eq_false hl, cond_false, List.getElem?_eq_none (by omega)]
    simp
structure OpFit (o : Op) : Prop where
  fit : Bk.fit o
  path : o.Path.length ≤ 1048576
  to : o.To.length ≤ 1048576
  text : Bk.bulk o.Text ≤ 1048576
theorem OpFit.of {o : Op} (h : Bk.fit o) (hb : Bk.bulk o ≤ 1048576) : OpFit o := by
  have e : Bk.bulk o = Bk.bulk o.Kind + (Bk.bulk o.Branch + (Bk.bulk o.Who + (Bk.bulk o.Path + (Bk.bulk o.To + (Bk.bulk o.At + Bk.bulk o.Text))))) := rfl
  have e1 : Bk.bulk o.Path = o.Path.length := rfl
  have e2 : Bk.bulk o.To = o.To.length := rfl
  exact ⟨h, by omega, by omega, by omega⟩
theorem zeA : ∀ {b c : Bool}, (b = true ↔ c = true) → b = c := by decide
theorem zky {i n : Nat} (hi : i < n) (hn : n ≤ maxi) (h0 : (0 : Int) < (i : Int)) : w64 ((i : Int) - 1) = ((i - 1 : Nat) : Int) := by
  rw [zai (by omega) (by unfold maxi at hn; omega)]; omega
structure FB (f : File) : Prop where
  path : f.Path.length ≤ 1048576
  len : f.Text.length ≤ 1048576
  text : Bk.fit f.Text
def TB (t : List File) : Prop := t.length ≤ 1048576 ∧ ∀ f ∈ t, FB f
theorem TB.at_ {t : List File} (h : TB t) {i : Nat} {f : File} (hf : t[i]? = some f) : FB f := h.2 f (List.mem_of_getElem? hf)
theorem TB.maxi {t : List File} (h : TB t) : t.length ≤ maxi := zan h.1
theorem TB.nil : TB [] := ⟨by simp, fun f hf => by simp at hf⟩
def zdd : File := ⟨[], []⟩
theorem zbB {t : List File} {i : Nat} {f : File} (h : t[i]? = some f) : t.getD i zdd = f := by simp [List.getD, h]
theorem zkI {t : List File} {i : Nat} {f : File} (h : t[i]? = some f) (hl : t.length ≤ maxi) (h0 : (0 : Int) < (i : Int)) : ∃ y, gi t (w64 ((i : Int) - 1)) = some y ∧ t.getD (i - 1) zdd = y := by
  have hi := zas h
  have hx : t[i - 1]? = some t[i - 1] := List.getElem?_eq_getElem (by omega)
  exact ⟨_, by rw [zky hi hl h0]; exact zad hx, zbB hx⟩
def zgo (t : List File) (i : Nat) : Bool := zaL (t.getD i zdd).Path && (zav (t.getD i zdd).Text && (bif decide (0 < (i : Int)) then Op.bytesLess (t.getD (i - 1) zdd).Path (t.getD i zdd).Path else true))
def zgp (t : List File) (i : Nat) : Bool := zgo t i && t.all fun f => !za5 (t.getD i zdd).Path f.Path
def zjW (t : List File) (i : Nat) : Bool := zgo t i && (t.take i).all fun f => !(zaL f.Path && (zaL (t.getD i zdd).Path && za5 f.Path (t.getD i zdd).Path))
def zaE (t : List File) : Bool := decide ((t.length : Int) ≤ 8) && zfp (zgp t) 0 t.length
theorem zpm (d : Str) (x : UInt8) (r : Str) : d < d ++ x :: r := by
  induction d with
  | nil => exact List.nil_lt_cons _ _
  | cons a d ih => exact List.cons_lt_cons_self.2 ih
theorem znV {d p : Str} (h : za5 d p = true) : d < p := by
  unfold za5 at h
  obtain ⟨t, rfl⟩ := List.isPrefixOf_iff_prefix.1 h
  rw [List.append_assoc]
  exact zpm d 47 t
theorem zjE {t : List File} {n : Nat} (h : ∀ i, i < n → zgo t i = true) {i j : Nat} (hij : i < j) (hj : j < n) : (t.getD i zdd).Path < (t.getD j zdd).Path := by
  induction j with
  | zero => omega
  | succ j ih =>
    have h1 := h (j + 1) hj
    unfold zgo at h1
    rw [decide_eq_true (by omega), cond_true, Nat.add_sub_cancel] at h1
    simp only [Bool.and_eq_true, za2, decide_eq_true_eq] at h1
    rcases Nat.lt_or_ge i j with h2 | h2
    · exact za8 (ih h2 (by omega)) h1.2.2
    · have : i = j := by omega
      subst this
      exact h1.2.2
theorem zlu (t : List File) : zfp (zjW t) 0 t.length = zfp (zgp t) 0 t.length := by
  apply zeA
  rw [zaJ, zaJ]
  constructor
  · intro h
    have hf : ∀ i, i < t.length → zgo t i = true := fun i hi => by
      have := h i (Nat.zero_le _) (by omega)
      unfold zjW at this
      simp only [Bool.and_eq_true] at this
      exact this.1
    intro i _ hi
    have hi' : i < t.length := by omega
    unfold zgp
    rw [hf i hi', Bool.true_and, List.all_eq_true]
    intro f hm
    obtain ⟨k, hk⟩ := List.mem_iff_getElem?.1 hm
    have hkl := zas hk
    cases hb : za5 (t.getD i zdd).Path f.Path with
    | false => rfl
    | true =>
      exfalso
      have hlt := znV hb
      rcases Nat.lt_trichotomy i k with h1 | h1 | h1
      · have := h k (Nat.zero_le _) (by omega)
        unfold zjW at this
        simp only [Bool.and_eq_true, List.all_eq_true] at this
        have h2 := this.2 t[i] (List.mem_of_getElem? (i := i) (by rw [List.getElem?_take_of_lt h1]; exact List.getElem?_eq_getElem hi'))
        have p1 := hf i hi'
        have p2 := hf k hkl
        unfold zgo at p1 p2
        simp only [Bool.and_eq_true] at p1 p2
        rw [zbB hk] at h2 p2
        rw [zbB (List.getElem?_eq_getElem hi')] at hb p1
        rw [p1.1, p2.1, hb] at h2
        simp at h2
      · subst h1
        rw [zbB hk] at hlt
        exact zao _ hlt
      · have := zjE hf h1 hi'
        rw [zbB hk] at this
        exact zao _ (za8 hlt this)
  · intro h i _ hi
    have hi' : i < t.length := by omega
    have h1 := h i (Nat.zero_le _) hi
    unfold zgp at h1
    simp only [Bool.and_eq_true] at h1
    unfold zjW
    rw [h1.1, Bool.true_and, List.all_eq_true]
    intro f hm
    obtain ⟨k, hk⟩ := List.mem_iff_getElem?.1 hm
    obtain ⟨hk', hki⟩ := show t[k]? = some f ∧ k < i from by
      rw [List.getElem?_take] at hk
      split at hk
      · exact ⟨hk, by assumption⟩
      · cases hk
    have h2 := h k (Nat.zero_le _) (by omega)
    unfold zgp at h2
    simp only [Bool.and_eq_true, List.all_eq_true] at h2
    have h3 := h2.2 t[i] (List.getElem_mem hi')
    rw [zbB hk'] at h3
    rw [zbB (List.getElem?_eq_getElem hi')]
    have h4 : za5 f.Path t[i].Path = false := by simpa using h3
    rw [h4]
    simp
theorem zin {t : List File} (h : TB t) : zeG t = some (zaE t) := by
  have hm := h.maxi
  unfold zeG zaE
  simp only [jn, zal]
  rw [zbb (n := t.length) (g := zgp t) (r0 := some false) (Z := some (decide ((t.length : Int) ≤ 8))) (f := fun m i => zdH t (fun _ _ => some (decide ((t.length : Int) ≤ 8))) m false i) (fun m i hi => by
    have hx : t[i]? = some t[i] := List.getElem?_eq_getElem hi
    have fx := h.at_ hx
    simp only [zdH, jn, zak hx, zad hx, cond_true, Option.bind_some, zab hi hm, zdV fx.path, zgI fx.text]
    unfold zgp zgo
    rw [zbB hx]
    have hin : ∀ K : Bool → Int → Option Bool, zcj t (i : Int) K (t.length + 1) false 0 = bif t.all (fun f => !za5 t[i].Path f.Path) then K false (t.length : Int) else some false := fun K => by
      rw [za3 (α := File) (xs := t) (p := fun f => !za5 t[i].Path f.Path) (r0 := some false) (Z := K false (t.length : Int)) (f := fun m k => zcj t (i : Int) K m false k) (fun m k f hf => by
        simp only [zcj, zak hf, zad hf, zad hx, cond_true, Option.bind_some, zab (zas hf) hm, zkW (h.at_ hf).path]
        cases za5 t[i].Path f.Path <;> rfl) (fun m => by simp only [zcj, zac, cond_false]) (by omega)]
    cases zaL t[i].Path
    · rfl
    cases zav t[i].Text
    · rfl
    simp only [Bool.not_true, cond_false, Bool.true_and]
    by_cases h0 : (0 : Int) < (i : Int)
    · obtain ⟨y, hy, ey⟩ := zkI hx hm h0
      rw [hy, ey, decide_eq_true h0]
      simp only [Option.bind_some, zg4, cond_true]
      cases Op.bytesLess y.Path t[i].Path
      · rfl
      · simp only [Bool.not_true, cond_false, Bool.true_and, zal, hin]
    · rw [decide_eq_false h0]
      simp only [cond_false, Bool.true_and, zal, hin]) (fun m => by simp only [zdH, zac, cond_false]) _ (by omega)]
  cases decide ((t.length : Int) ≤ 8) <;> cases zfp (zgp t) 0 t.length <;> rfl
theorem zlv {d p : Str} (hd : d.length ≤ 1048576) (hp : p.length ≤ 1048576) : zbY d p = some (zaL d && (zaL p && za5 d p)) := by
  cases h1 : zaL d with
  | false => unfold zbY; simp only [jn, zbP hd, h1, Option.bind_some, cond_false, Bool.false_and]
  | true =>
    cases h2 : zaL p with
    | false => unfold zbY; simp only [jn, zbP hd, zbP hp, h1, h2, Option.bind_some, cond_false, cond_true, Bool.false_and, Bool.and_false]
    | true => rw [zjD hd hp h1 h2]; rfl
theorem zdF {t : List File} (h : TB t) : zc5 t = some (zaE t) := by
  have hm := h.maxi
  unfold zc5 zaE
  by_cases h8 : (8 : Int) < (t.length : Int)
  · rw [decide_eq_true h8, decide_eq_false (by omega)]; rfl
  rw [decide_eq_false h8, decide_eq_true (by omega), cond_false, Bool.true_and, ← zlu]
  simp only [jn, zal]
  rw [zbb (n := t.length) (g := zjW t) (r0 := some false) (Z := some true) (f := fun m i => zcA t (fun _ _ => some true) m false i) (fun m i hi => by
    have hx : t[i]? = some t[i] := List.getElem?_eq_getElem hi
    have fx := h.at_ hx
    simp only [zcA, jn, zak hx, zad hx, cond_true, Option.bind_some, zab hi hm, zbP fx.path, zfr fx.text, zg7 (Nat.le_of_lt hi), zal]
    unfold zjW zgo
    rw [zbB hx]
    have hin : ∀ K : Bool → Int → Option Bool, zbz t[i] (t.take i) K ((t.take i).length + 1) false 0 = bif (t.take i).all (fun f => !(zaL f.Path && (zaL t[i].Path && za5 f.Path t[i].Path))) then K false ((t.take i).length : Int) else some false := fun K => by
      rw [za3 (α := File) (xs := t.take i) (p := fun f => !(zaL f.Path && (zaL t[i].Path && za5 f.Path t[i].Path))) (r0 := some false) (Z := K false ((t.take i).length : Int)) (f := fun m k => zbz t[i] (t.take i) K m false k) (fun m k f hf => by
        have hf2 : FB f := h.2 f (List.mem_of_mem_take (List.mem_of_getElem? hf))
        simp only [zbz, zak hf, zad hf, cond_true, Option.bind_some, zab (zas hf) (show (t.take i).length ≤ maxi by simp; omega), zlv hf2.path fx.path]
        cases (zaL f.Path && (zaL t[i].Path && za5 f.Path t[i].Path)) <;> rfl) (fun m => by simp only [zbz, zac, cond_false]) (by omega)]
    cases zav t[i].Text
    · cases zaL t[i].Path <;> rfl
    cases hp : zaL t[i].Path
    · rfl
    simp only [Bool.not_true, cond_false, Bool.true_and]
    by_cases h0 : (0 : Int) < (i : Int)
    · obtain ⟨y, hy, ey⟩ := zkI hx hm h0
      rw [hy, ey, decide_eq_true h0]
      simp only [Option.bind_some, cond_true]
      cases Op.bytesLess y.Path t[i].Path
      · rfl
      · simp only [Bool.not_true, cond_false, Bool.true_and, zal, hin, hp]
    · rw [decide_eq_false h0]
      simp only [cond_false, Bool.true_and, zal, hin, hp]) (fun m => by simp only [zcA, zac, cond_false]) _ (by omega)]
  cases zfp (zjW t) 0 t.length <;> rfl
structure CB (c : Commit) : Prop where
  par : c.Parents.length ≤ 1048576
  who : c.Who.length ≤ 1048576
  tree : TB c.Tree
structure RpB (r : Repo) : Prop where
  coms : r.Commits.length ≤ 1048576
  com : ∀ c ∈ r.Commits, CB c
  heads : r.Heads.length ≤ 1048576
  head : ∀ h ∈ r.Heads, h.Name.length ≤ 1048576
theorem RpB.cat {r : Repo} (h : RpB r) {i : Nat} {c : Commit} (hc : r.Commits[i]? = some c) : CB c := h.com c (List.mem_of_getElem? hc)
theorem RpB.hat {r : Repo} (h : RpB r) {i : Nat} {c : Head} (hc : r.Heads[i]? = some c) : c.Name.length ≤ 1048576 := h.head c (List.mem_of_getElem? hc)
def zeB : Head := ⟨[], 0⟩
theorem zbX {t : List Head} {i : Nat} {f : Head} (h : t[i]? = some f) : t.getD i zeB = f := by simp [List.getD, h]
theorem zkJ {t : List Head} {i : Nat} {f : Head} (h : t[i]? = some f) (hl : t.length ≤ maxi) (h0 : (0 : Int) < (i : Int)) : ∃ y, gi t (w64 ((i : Int) - 1)) = some y ∧ t.getD (i - 1) zeB = y := by
  have hi := zas h
  have hx : t[i - 1]? = some t[i - 1] := List.getElem?_eq_getElem (by omega)
  exact ⟨_, by rw [zky hi hl h0]; exact zad hx, zbX hx⟩
def upB (i p : Int) : Bool := decide (0 ≤ p) && decide (p ≤ i - 1)
def zoC (ps : List Int) : Bool := match ps with
  | [p, q] => !(p == q)
  | _ => true
def zlN (i : Int) (c : Commit) : Bool := c.Parents.all (upB i) && (decide ((c.Parents.length : Int) ≤ 2) && (zoC c.Parents && (zaC c.Who && zaE c.Tree)))
def noCommit : Commit := ⟨[], [], []⟩
def zm1 (cs : List Commit) : Bool := zfp (fun i => zlN i (cs.getD i noCommit)) 0 cs.length
def zf8 (n : Nat) (hs : List Head) (i : Nat) : Bool := zaC (hs.getD i zeB).Name && (upB n (hs.getD i zeB).At && (bif decide (0 < (i : Int)) then Op.bytesLess (hs.getD (i - 1) zeB).Name (hs.getD i zeB).Name else true))
def zde (n : Nat) (hs : List Head) : Bool := zfp (zf8 n hs) 0 hs.length && decide ((hs.length : Int) ≤ 5)
def zag (r : Repo) : Bool := decide ((r.Commits.length : Int) ≤ 16) && (zm1 r.Commits && zde r.Commits.length r.Heads)
theorem zd9 {t : List Commit} {i : Nat} {f : Commit} (h : t[i]? = some f) : t.getD i noCommit = f := by simp [List.getD, h]
theorem zeQ {n : Nat} (hn : n ≤ maxi) : w64 ((n : Int) - 1) = (n : Int) - 1 := zai (by omega) (by unfold maxi at hn; omega)
def zpn (i : Int) (ps : List Int) (k : Nat) : Bool := upB i (ps.getD k 0) && !(decide (0 < (k : Int)) && (ps.getD k 0 == ps.getD 0 0))
theorem zce {t : List Int} {i : Nat} {f : Int} (h : t[i]? = some f) : t.getD i 0 = f := by simp [List.getD, h]
theorem zmB (i : Int) (ps : List Int) (h2 : (ps.length : Int) ≤ 2) : zfp (zpn i ps) 0 ps.length = (ps.all (upB i) && zoC ps) := by
  match ps, h2 with
  | [], _ => rfl
  | [p], _ => simp [zfp, zpn, zoC]
  | [p, q], _ =>
    simp only [zfp, zpn, zoC, List.length_cons, List.length_nil, List.all_cons, List.all_nil]
    have e : (q == p) = (p == q) := by
      apply zeA; rw [beq_iff_eq, beq_iff_eq]; exact eq_comm
    simp [e]
    cases upB i p <;> cases upB i q <;> simp
  | p :: q :: s :: l, h => simp at h; omega
theorem ztk {i : Nat} {c : Commit} (hi : i ≤ 1048576) (hc : CB c) (K : Bool → Int → Option Bool) : zck (i : Int) c K (c.Parents.length + 1) false 0 = bif zfp (zpn i c.Parents) 0 c.Parents.length then K false (c.Parents.length : Int) else some false := by
  have hm := zan hc.par
  rw [zbb (n := c.Parents.length) (g := zpn i c.Parents) (r0 := some false) (Z := K false (c.Parents.length : Int)) (f := fun m k => zck (i : Int) c K m false k) (fun m k hk => by
    have hx : c.Parents[k]? = some c.Parents[k] := List.getElem?_eq_getElem hk
    have h00 : c.Parents[0]? = some c.Parents[0] := List.getElem?_eq_getElem (by omega)
    have hg0 : gi c.Parents 0 = some c.Parents[0] := zad (i := 0) h00
    simp only [zck, jn, zak hx, zad hx, hg0, cond_true, Option.bind_some, zab hk hm, zeP, zeQ (show i ≤ maxi by unfold maxi; omega)]
    unfold zpn
    rw [zce hx, zce h00, show (decide ((0 : Int) ≤ c.Parents[k]) && decide (c.Parents[k] ≤ (i : Int) - 1)) = upB i c.Parents[k] from rfl]
    cases upB (i : Int) c.Parents[k]
    · rfl
    · cases decide ((0 : Int) < (k : Int))
      · rfl
      · cases (c.Parents[k] == c.Parents[0]) <;> rfl) (fun m => by simp only [zck, zac, cond_false]) _ (by omega)]
theorem ztl {r : Repo} (h : RpB r) : zcl r (fun _ _ => jn (fun (y128 : Bool) => some y128) fun K130 => bif decide (((r.Commits.length : Int) : Int) ≤ (16 : Int)) then (K130 (decide (((r.Heads.length : Int) : Int) ≤ (5 : Int)))) else (K130 false)) (r.Heads.length + 1) false 0 = some (decide ((r.Commits.length : Int) ≤ 16) && zde r.Commits.length r.Heads) := by
  have hm := zan h.heads
  rw [zbb (n := r.Heads.length) (g := zf8 r.Commits.length r.Heads) (r0 := some false) (Z := some (decide ((r.Commits.length : Int) ≤ 16) && decide ((r.Heads.length : Int) ≤ 5))) (f := fun m k => zcl r _ m false k) (fun m k hk => by
    have hx : r.Heads[k]? = some r.Heads[k] := List.getElem?_eq_getElem hk
    simp only [zcl, jn, zak hx, zad hx, cond_true, Option.bind_some, zab hk hm, zeP, zeQ (zan h.coms), zbf (zan (h.hat hx))]
    unfold zf8
    rw [zbX hx, show (decide ((0 : Int) ≤ r.Heads[k].At) && decide (r.Heads[k].At ≤ (r.Commits.length : Int) - 1)) = upB r.Commits.length r.Heads[k].At from rfl]
    cases zaC r.Heads[k].Name
    · rfl
    cases upB r.Commits.length r.Heads[k].At
    · rfl
    by_cases h0 : (0 : Int) < (k : Int)
    · obtain ⟨y, hy, ey⟩ := zkJ hx hm h0
      rw [hy, ey, decide_eq_true h0]
      simp only [Option.bind_some, zg4]
      cases Op.bytesLess y.Name r.Heads[k].Name <;> rfl
    · rw [decide_eq_false h0]; rfl) (fun m => by
      simp only [zcl, zac, cond_false, jn]
      cases decide ((r.Commits.length : Int) ≤ 16) <;> rfl) _ (by omega)]
  unfold zde
  cases zfp (zf8 r.Commits.length r.Heads) 0 r.Heads.length <;> cases decide ((r.Commits.length : Int) ≤ 16) <;> rfl
theorem zeR {r : Repo} (h : RpB r) : zc7 r = some (zag r) := by
  have hm := zan h.coms
  unfold zc7 zag zm1
  simp only [jn, zal]
  have h3 := ztl h
  simp only [jn] at h3
  rw [zbb (n := r.Commits.length) (g := fun i => zlN i (r.Commits.getD i noCommit)) (r0 := some false) (Z := some (decide ((r.Commits.length : Int) ≤ 16) && zde r.Commits.length r.Heads)) (f := fun m i => zdI r _ m false i) (fun m i hi => by
    have hx : r.Commits[i]? = some r.Commits[i] := List.getElem?_eq_getElem hi
    have hc := h.cat hx
    have hco := h.coms
    simp only [zdI, jn, zak hx, zad hx, cond_true, Option.bind_some, zab hi hm, zal, ztk (show i ≤ 1048576 by omega) hc, zd9 hx]
    unfold zlN
    by_cases h2 : (2 : Int) < (r.Commits[i].Parents.length : Int)
    · rw [decide_eq_true h2, decide_eq_false (show ¬ (r.Commits[i].Parents.length : Int) ≤ 2 by omega)]
      simp only [cond_true, Bool.false_and, Bool.and_false, cond_false]
      cases zfp (zpn i r.Commits[i].Parents) 0 r.Commits[i].Parents.length <;> rfl
    · rw [decide_eq_false h2, decide_eq_true (show (r.Commits[i].Parents.length : Int) ≤ 2 by omega), zmB _ _ (by omega)]
      simp only [cond_false, Bool.true_and, zbf (zan hc.who), zin hc.tree, Option.bind_some]
      cases r.Commits[i].Parents.all (upB i) <;> cases zoC r.Commits[i].Parents <;> cases zaC r.Commits[i].Who <;> cases zaE r.Commits[i].Tree <;> rfl) (fun m => by
      simp only [zdI, zac, cond_false, jn, zal, h3]) _ (by omega)]
  cases zfp (fun i => zlN i (r.Commits.getD i noCommit)) 0 r.Commits.length <;> cases decide ((r.Commits.length : Int) ≤ 16) <;> rfl
theorem zlw {r : Repo} (h : RpB r) {hs : List Head} (hl : hs.length ≤ 1048576) (hn : ∀ h ∈ hs, h.Name.length ≤ 1048576) : zfn r hs = some (zde r.Commits.length hs) := by
  have hm := zan hl
  unfold zfn zde
  by_cases h5 : (5 : Int) < (hs.length : Int)
  · rw [decide_eq_true h5, decide_eq_false (show ¬ (hs.length : Int) ≤ 5 by omega), Bool.and_false]; rfl
  rw [decide_eq_false h5, decide_eq_true (show (hs.length : Int) ≤ 5 by omega), cond_false, Bool.and_true]
  simp only [jn, zal]
  rw [zbb (n := hs.length) (g := zf8 r.Commits.length hs) (r0 := some false) (Z := some true) (f := fun m k => zb3 r hs (fun _ _ => some true) m false k) (fun m k hk => by
    have hx : hs[k]? = some hs[k] := List.getElem?_eq_getElem hk
    simp only [zb3, zbZ, jn, zak hx, zad hx, cond_true, Option.bind_some, zab hk hm, zff, zeQ (zan h.coms), zbG (zan (hn _ (List.mem_of_getElem? hx)))]
    unfold zf8
    rw [zbX hx, show (decide ((0 : Int) ≤ hs[k].At) && decide (hs[k].At ≤ (r.Commits.length : Int) - 1)) = upB r.Commits.length hs[k].At from rfl]
    cases zaC hs[k].Name
    · rfl
    cases upB r.Commits.length hs[k].At
    · rfl
    by_cases h0 : (0 : Int) < (k : Int)
    · obtain ⟨y, hy, ey⟩ := zkJ hx hm h0
      rw [hy, ey, decide_eq_true h0]
      simp only [Option.bind_some]
      cases Op.bytesLess y.Name hs[k].Name <;> rfl
    · rw [decide_eq_false h0]; rfl) (fun m => by simp only [zb3, zac, cond_false]) _ (by omega)]
  cases zfp (zf8 r.Commits.length hs) 0 hs.length <;> rfl
theorem zio {r : Repo} (h : RpB r) : zeT r = some (zag r) := by
  have hm := zan h.coms
  unfold zeT zag zm1
  by_cases h16 : (16 : Int) < (r.Commits.length : Int)
  · rw [decide_eq_true h16, decide_eq_false (by omega)]; rfl
  rw [decide_eq_false h16, decide_eq_true (by omega), cond_false, Bool.true_and]
  simp only [jn, zal]
  rw [zbb (n := r.Commits.length) (g := fun i => zlN i (r.Commits.getD i noCommit)) (r0 := some false) (Z := some (zde r.Commits.length r.Heads)) (f := fun m i => zcB r _ m false i) (fun m i hi => by
    have hx : r.Commits[i]? = some r.Commits[i] := List.getElem?_eq_getElem hi
    have hc := h.cat hx
    have hco := h.coms
    have hpm := zan hc.par
    have hin : ∀ K : Bool → Int → Option Bool, zbA (i : Int) r.Commits[i] K (r.Commits[i].Parents.length + 1) false 0 = bif r.Commits[i].Parents.all (upB i) then K false (r.Commits[i].Parents.length : Int) else some false := fun K => by
      rw [za3 (α := Int) (xs := r.Commits[i].Parents) (p := upB i) (r0 := some false) (Z := K false (r.Commits[i].Parents.length : Int)) (f := fun m k => zbA (i : Int) r.Commits[i] K m false k) (fun m k p hp => by
        simp only [zbA, zak hp, zad hp, cond_true, Option.bind_some, zab (zas hp) hpm, zff, zeQ (show i ≤ maxi by unfold maxi; omega)]
        rw [show (decide ((0 : Int) ≤ p) && decide (p ≤ (i : Int) - 1)) = upB i p from rfl]
        cases upB i p <;> rfl) (fun m => by simp only [zbA, zac, cond_false]) (by omega)]
    simp only [zcB, jn, zak hx, zad hx, cond_true, Option.bind_some, zab hi hm, zal, hin, zd9 hx, zbG (zan hc.who), zdF hc.tree]
    unfold zlN
    match hps : r.Commits[i].Parents with
    | [] => cases zaC r.Commits[i].Who <;> cases zaE r.Commits[i].Tree <;> rfl
    | [p] =>
      simp only [List.length_cons, List.length_nil, List.all_cons, List.all_nil, zoC]
      cases upB i p <;> cases zaC r.Commits[i].Who <;> cases zaE r.Commits[i].Tree <;> rfl
    | [p, q] =>
      simp only [List.length_cons, List.length_nil, List.all_cons, List.all_nil, zoC, gi, List.getElem?_cons_zero, List.getElem?_cons_succ, Int.toNat_zero, Int.toNat_one]
      cases upB i p <;> cases upB i q <;> cases hpq : p == q <;> cases zaC r.Commits[i].Who <;> cases zaE r.Commits[i].Tree <;> simp [hpq] <;> rfl
    | p :: q :: s :: l =>
      rw [decide_eq_true (by simp only [List.length_cons]; omega), decide_eq_false (show ¬ (((p :: q :: s :: l).length : Nat) : Int) ≤ 2 by simp only [List.length_cons]; omega)]
      simp only [cond_true, Bool.false_and, Bool.and_false, cond_false]) (fun m => by
      simp only [zcB, zac, cond_false, jn, zlw h h.heads h.head, Option.bind_some]) _ (by omega)]
  cases zfp (fun i => zlN i (r.Commits.getD i noCommit)) 0 r.Commits.length <;> rfl
def atB (r : Repo) (name : Str) : Int := match r.Heads.find? (fun h => h.Name == name) with
  | some h => h.At
  | none => -1
theorem zeJ {r : Repo} (h : RpB r) (name : Str) : zc8 r name = some (atB r name) := by
  have hm := zan h.heads
  unfold zc8 atB
  simp only [jn, zal]
  rw [zcK (p := fun h : Head => h.Name == name) (xs := r.Heads) (r := fun h => some h.At) (Z := some (-1)) (f := fun m k => zdJ r name _ m 0 k) (fun m i x hx => by
    simp only [zdJ, zak hx, zad hx, cond_true, Option.bind_some, zab (zas hx) hm]) (fun m => by simp only [zdJ, zac, cond_false]) (by omega)]
  cases r.Heads.find? (fun h => h.Name == name) <;> rfl
theorem zm3 {r : Repo} (h : RpB r) (name : Str) : zcO r name = some (atB r name) := by
  have hm := zan h.heads
  unfold zcO atB
  simp only [jn, zal]
  rw [zcK (p := fun h : Head => h.Name == name) (xs := r.Heads) (r := fun h => some h.At) (Z := some (-1)) (f := fun m k => zb4 r name _ m 0 k) (fun m i x hx => by
    simp only [zb4, zak hx, zad hx, cond_true, Option.bind_some, zab (zas hx) hm]) (fun m => by simp only [zb4, zac, cond_false]) (by omega)]
  cases r.Heads.find? (fun h => h.Name == name) <;> rfl
theorem znB {r : Repo} (h : RpB r) (a : Int) : zbZ r a = some (upB r.Commits.length a) := by
  unfold zbZ
  rw [zeQ (zan h.coms), zff, Option.bind_some]
  rfl
theorem zat {n : Nat} {a : Int} : upB n a = true ↔ 0 ≤ a ∧ a ≤ (n : Int) - 1 := by
  unfold upB
  simp only [Bool.and_eq_true, decide_eq_true_eq]
theorem zf9 {t : List File} (h : TB t) : zdY t = some t := by
  have hm := h.maxi
  have hl := h.1
  unfold zdY
  simp only [jn, zal]
  rw [zdy (xs := t) (p := fun _ => true) (g := fun f : File => f) (Z := fun acc => some acc) (f := fun m acc i => zdr t _ m acc i) (fun m i x acc hx ha => by
    have hi := zas hx
    simp only [zdr, zak hx, zad hx, cond_true, Option.bind_some, zab hi hm, apN (h.at_ hx).len, ap1 (show acc.length ≤ 1048576 by omega)]) (fun m acc => by simp only [zdr, zac, cond_false]) (by omega)]
  simp
theorem ziq {t : List File} (h : TB t) : zdo t = some t := by
  have hm := h.maxi
  have hl := h.1
  unfold zdo
  simp only [jn, zal]
  rw [zdy (xs := t) (p := fun _ => true) (g := fun f : File => f) (Z := fun acc => some acc) (f := fun m acc i => zdB t _ m acc i) (fun m i x acc hx ha => by
    have hi := zas hx
    simp only [zdB, zak hx, zad hx, cond_true, Option.bind_some, zab hi hm, zaW (h.at_ hx).len, ap1 (show acc.length ≤ 1048576 by omega)]) (fun m acc => by simp only [zdB, zac, cond_false]) (by omega)]
  simp
theorem zir {c : Commit} (h : CB c) : zdA c = some c := by
  unfold zdA
  rw [apN h.par, Option.bind_some, zf9 h.tree, Option.bind_some]
theorem zft {r : Repo} (h : RpB r) : zbI r = some r := by
  have hm := zan h.coms
  have hl := h.coms
  unfold zbI
  simp only [jn, zal, apN h.heads, Option.bind_some]
  rw [zdy (xs := r.Commits) (p := fun _ => true) (g := fun f : Commit => f) (Z := fun acc => some (Repo.mk acc r.Heads)) (f := fun m acc i => zds r _ m i acc r.Heads) (fun m i x acc hx ha => by
    have hi := zas hx
    simp only [zds, zak hx, zad hx, cond_true, Option.bind_some, zab hi hm, zir (h.cat hx), ap1 (show acc.length ≤ 1048576 by omega)]) (fun m acc => by simp only [zds, zac, cond_false]) (by omega)]
  rw [show ((r.Commits.filter fun _ => true).map fun f : Commit => f) = r.Commits by simp]
def zeI (n : Str) (a : Int) : Bool → List Head → List Head
  | put, [] => bif put then [] else [⟨n, a⟩]
  | put, h :: hs => (bif !put && !Op.bytesLess h.Name n then [⟨n, a⟩] else []) ++ ((bif h.Name != n then [h] else []) ++ zeI n a (put || !Op.bytesLess h.Name n) hs)
theorem zhA (n : Str) (a : Int) : ∀ (hs : List Head) (put : Bool), (zeI n a put hs).length + (bif put then 1 else 0) ≤ hs.length + 1
  | [], put => by cases put <;> simp [zeI]
  | h :: hs, put => by
    have ih := zhA n a hs (put || !Op.bytesLess h.Name n)
    unfold zeI
    cases put <;> cases hb : Op.bytesLess h.Name n <;> cases hn : (h.Name != n) <;> simp [hb] at ih ⊢ <;> omega
theorem putH_mem (n : Str) (a : Int) : ∀ (hs : List Head) (put : Bool) (x : Head), x ∈ zeI n a put hs → x ∈ hs ∨ x = ⟨n, a⟩
  | [], put, x, h => by cases put <;> simp [zeI] at h; exact .inr h
  | h :: hs, put, x, hx => by
    unfold zeI at hx
    rcases List.mem_append.1 hx with h1 | h1
    · cases hc : (!put && !Op.bytesLess h.Name n) with
      | true => rw [hc] at h1; simp at h1; exact .inr h1
      | false => rw [hc] at h1; simp at h1
    · rcases List.mem_append.1 h1 with h2 | h2
      · cases hc : (h.Name != n) with
        | true => rw [hc] at h2; simp at h2; exact .inl (by rw [h2]; simp)
        | false => rw [hc] at h2; simp at h2
      · rcases putH_mem n a hs _ x h2 with h3 | h3
        · exact .inl (List.mem_cons_of_mem _ h3)
        · exact .inr h3
theorem zkX {r : Repo} (h : RpB r) (hs : r.Heads.length ≤ 100000) (n : Str) (a : Int) (cs : List Commit) : ∀ (k i m : Nat) (put : Bool) (out : List Head), i + k = r.Heads.length → k < m → out.length ≤ 2 * i →
    zdt r n a (fun y14 _ y16 y19 => bif (!y14) then ((apM y19 [Vm.Head.mk n a]).bind fun q160 => some (Vm.Repo.mk y16 q160)) else some (Vm.Repo.mk y16 y19)) m put (i : Int) cs out = some ⟨cs, out ++ zeI n a put (r.Heads.drop i)⟩
  | k, i, 0, put, out, _, hm, _ => by omega
  | 0, i, m + 1, put, out, hi, _, ho => by
    obtain rfl : i = r.Heads.length := by omega
    simp only [zdt, zac, cond_false, List.drop_length]
    cases put
    · simp only [Bool.not_false, cond_true, ap1 (show out.length ≤ 1048576 by omega), Option.bind_some, zeI, cond_false]
    · simp [zeI]
  | k + 1, i, m + 1, put, out, hi, hm, ho => by
    have hlt : i < r.Heads.length := by omega
    have hx : r.Heads[i]? = some r.Heads[i] := List.getElem?_eq_getElem hlt
    have hd : r.Heads.drop i = r.Heads[i] :: r.Heads.drop (i + 1) := List.drop_eq_getElem_cons hlt
    have hw := zab hlt (zan h.heads)
    have ih := fun put out ho => zkX h hs n a cs k (i + 1) m put out (by omega) (by omega) ho
    simp only [zdt, jn, zak hx, zad hx, cond_true, Option.bind_some, hw]
    rw [hd]
    unfold zeI
    have e1 := ap1 (x := Vm.Head.mk n a) (show out.length ≤ 1048576 by omega)
    have e2 := ap1 (x := r.Heads[i]) (show out.length ≤ 1048576 by omega)
    have e3 : apM (out ++ [Vm.Head.mk n a]) [r.Heads[i]] = some (out ++ ([Vm.Head.mk n a] ++ [r.Heads[i]])) := by rw [ap1 (show (out ++ [Vm.Head.mk n a]).length ≤ 1048576 by simp; omega), List.append_assoc]
    have l1 : (out ++ [r.Heads[i]]).length ≤ 2 * (i + 1) := by simp; omega
    have l2 : (out ++ [Vm.Head.mk n a]).length ≤ 2 * (i + 1) := by simp; omega
    have l3 : (out ++ ([Vm.Head.mk n a] ++ [r.Heads[i]])).length ≤ 2 * (i + 1) := by simp; omega
    have l0 : out.length ≤ 2 * (i + 1) := by omega
    cases put <;> cases Op.bytesLess r.Heads[i].Name n <;> cases (r.Heads[i].Name != n) <;>
      simp only [Bool.not_true, Bool.not_false, cond_true, cond_false, e1, e2, e3, Option.bind_some, Bool.and_true, Bool.and_false, Bool.or_true, Bool.or_false, Bool.true_and, Bool.false_and, Bool.true_or, Bool.false_or, ih _ _ l0, ih _ _ l1, ih _ _ l2, ih _ _ l3, List.append_assoc, List.nil_append]
def headR (r : Repo) (n : Str) (a : Int) : Repo := ⟨r.Commits, zeI n a false r.Heads⟩
theorem zi6 {r : Repo} (h : RpB r) (hs : r.Heads.length ≤ 100000) (n : Str) (a : Int) : zfJ r n a = some (headR r n a) := by
  unfold zfJ headR
  simp only [jn, zal]
  have := zkX h hs n a r.Commits r.Heads.length 0 (r.Heads.length + 1) false [] (by omega) (by omega) (by simp)
  simpa using this
theorem RpB.headR {r : Repo} (h : RpB r) (hs : r.Heads.length ≤ 100000) {n : Str} (hn : n.length ≤ 1048576) (a : Int) : RpB (headR r n a) :=
  ⟨h.coms, h.com, by have := zhA n a r.Heads false; simp at this; show (zeI n a false r.Heads).length ≤ _; omega, fun x hx => by
    rcases putH_mem n a r.Heads false x hx with h1 | h1
    · exact h.head x h1
    · rw [h1]; exact hn⟩
def addR (r : Repo) (n : Str) (c : Commit) : Repo := ⟨r.Commits ++ [c], zeI n r.Commits.length false r.Heads⟩
theorem RpB.push {r : Repo} (h : RpB r) {c : Commit} (hc : CB c) (hl : r.Commits.length ≤ 100000) : RpB ⟨r.Commits ++ [c], r.Heads⟩ :=
  ⟨by simp; omega, fun x hx => by
    rcases List.mem_append.1 hx with h1 | h1
    · exact h.com x h1
    · rw [List.mem_singleton] at h1; rw [h1]; exact hc, h.heads, h.head⟩
theorem RpB.addR {r : Repo} (h : RpB r) (hl : r.Commits.length ≤ 100000) (hs : r.Heads.length ≤ 100000) {n : Str} (hn : n.length ≤ 1048576) {c : Commit} (hc : CB c) : RpB (addR r n c) :=
  (h.push hc hl).headR hs hn _
theorem znW {r : Repo} (h : RpB r) (hl : r.Commits.length ≤ 100000) (hs : r.Heads.length ≤ 100000) (n : Str) {c : Commit} (hc : CB c) : zeL r n c = some (addR r n c) := by
  unfold zeL
  rw [apN h.coms, Option.bind_some, ap1 h.coms, Option.bind_some, zi6 (h.push hc hl) hs, Option.bind_some]
  rfl
theorem zah {r : Repo} (h : zag r = true) : r.Commits.length ≤ 16 ∧ r.Heads.length ≤ 5 := by
  unfold zag zde at h
  simp only [Bool.and_eq_true, decide_eq_true_eq] at h
  omega
def zdb : Repo := ⟨[], []⟩
theorem zaw {t : List File} (h : zaE t = true) : t.length ≤ 8 := by
  unfold zaE at h
  simp only [Bool.and_eq_true, decide_eq_true_eq] at h
  omega
theorem zfT {r : Repo} (h : zag r = true) {i : Nat} (hi : i < r.Commits.length) : zlN i (r.Commits.getD i noCommit) = true := by
  unfold zag zm1 at h
  simp only [Bool.and_eq_true] at h
  exact zaJ.1 h.2.1 i (Nat.zero_le _) (by omega)
def zaf (r : Repo) (i : Nat) : List Int := (r.Commits.getD i noCommit).Parents
theorem zaY {r : Repo} (h : zag r = true) {i : Nat} (hi : i < r.Commits.length) : (zaf r i).length ≤ 2 ∧ ∀ p ∈ zaf r i, 0 ≤ p ∧ p ≤ (i : Int) - 1 := by
  have := zfT h hi
  unfold zlN at this
  simp only [Bool.and_eq_true, decide_eq_true_eq, List.all_eq_true] at this
  obtain ⟨h1, h2, _⟩ := this
  refine ⟨by unfold zaf; omega, fun p hp => ?_⟩
  have := h1 p hp
  unfold upB at this
  simp only [Bool.and_eq_true, decide_eq_true_eq] at this
  exact this
theorem zjw {r : Repo} {i : Nat} (hi : i < r.Commits.length) : gi r.Commits (i : Int) = some (r.Commits.getD i noCommit) := by
  rw [zd9 (List.getElem?_eq_getElem hi)]
  exact zad (List.getElem?_eq_getElem hi)
theorem zgz {r : Repo} (h : zag r = true) {x : Head} (hx : x ∈ r.Heads) : 0 ≤ x.At ∧ x.At ≤ (r.Commits.length : Int) - 1 ∧ zaC x.Name = true := by
  obtain ⟨i, hi⟩ := List.mem_iff_getElem?.1 hx
  unfold zag zde at h
  simp only [Bool.and_eq_true] at h
  have := zaJ.1 h.2.2.1 i (Nat.zero_le _) (by have := zas hi; omega)
  unfold zf8 upB at this
  rw [zbX hi] at this
  simp only [Bool.and_eq_true, decide_eq_true_eq] at this
  exact ⟨this.2.1.1, this.2.1.2, this.1⟩
theorem at_range {r : Repo} (h : zag r = true) (n : Str) : atB r n = -1 ∨ (0 ≤ atB r n ∧ atB r n ≤ (r.Commits.length : Int) - 1) := by
  unfold atB
  cases hf : r.Heads.find? (fun h => h.Name == n) with
  | none => exact .inl rfl
  | some x =>
    have := zgz h (List.mem_of_find?_eq_some hf)
    exact .inr ⟨this.1, this.2.1⟩
def zkK (mk : List Bool) (p : Int) : List Bool := mk.set p.toNat true
theorem zfU (mk : List Bool) (p : Int) : (zkK mk p).length = mk.length := by simp [zkK]
theorem zi7 : ∀ (ps : List Int) (mk : List Bool), (ps.foldl zkK mk).length = mk.length
  | [], mk => rfl
  | p :: ps, mk => by rw [List.foldl_cons, zi7 ps, zfU]
def zi8 (r : Repo) (i : Nat) (mk : List Bool) : List Bool := bif mk.getD i false then (zaf r i).foldl zkK mk else mk
theorem zeC (r : Repo) (i : Nat) (mk : List Bool) : (zi8 r i mk).length = mk.length := by
  unfold zi8
  cases mk.getD i false
  · rfl
  · exact zi7 _ _
def zdQ (r : Repo) : Nat → List Bool → List Bool
  | 0, mk => mk
  | i + 1, mk => zdQ r i (zi8 r i mk)
theorem zhB (r : Repo) : ∀ (i : Nat) (mk : List Bool), (zdQ r i mk).length = mk.length
  | 0, mk => rfl
  | i + 1, mk => by unfold zdQ; rw [zhB r i, zeC]
def zap (r : Repo) (a : Nat) : List Bool := zdQ r (a + 1) ((List.replicate r.Commits.length false).set a true)
theorem zaV (r : Repo) (a : Nat) : (zap r a).length = r.Commits.length := by unfold zap; rw [zhB]; simp
def zib (mk : List Bool) : List Int := ((List.range mk.length).filter fun i => mk.getD i false).map Int.ofNat
def za7 (r : Repo) (a : Int) : List Int := zib (zap r a.toNat)
theorem zbM {mk : List Bool} {i : Nat} (h : i < mk.length) : gi mk (i : Int) = some (mk.getD i false) := by
  have hx : mk[i]? = some mk[i] := List.getElem?_eq_getElem h
  rw [zad hx]
  simp [List.getD, hx]
theorem zmC {mk : List Bool} {p : Int} {i : Nat} (h : mk.getD i false = true) : (zkK mk p).getD i false = true := by
  unfold zkK
  by_cases e : p.toNat = i
  · subst e
    have hl : p.toNat < mk.length := by
      rcases Nat.lt_or_ge p.toNat mk.length with h1 | h1
      · exact h1
      · rw [List.getD, List.getElem?_eq_none (by omega)] at h; simp at h
    simp [List.getD, hl]
  · simp only [List.getD, List.getElem?_set_ne e] at h ⊢
    exact h
theorem zoF {r : Repo} (h : zag r = true) {i : Nat} (hi : i < r.Commits.length) {F : List Bool → Option (List Int)} : ∀ (j k m : Nat) (mk : List Bool), k + j = (zaf r i).length → j < m → mk.length = r.Commits.length →
    zc0 r (i : Int) (fun _ y27 => F y27) m (k : Int) mk = F (bif mk.getD i false then ((zaf r i).drop k).foldl zkK mk else mk)
  | j, k, 0, mk, _, hm, _ => by omega
  | 0, k, m + 1, mk, hk, _, hl => by
    obtain rfl : k = (zaf r i).length := by omega
    have e : (r.Commits.getD i noCommit).Parents = zaf r i := rfl
    simp only [zc0, jn, zjw hi, Option.bind_some, e, zac, cond_false, List.drop_length, List.foldl_nil]
    cases mk.getD i false <;> rfl
  | j + 1, k, m + 1, mk, hk, hm, hl => by
    have hlt : k < (zaf r i).length := by omega
    have hx : (zaf r i)[k]? = some (zaf r i)[k] := List.getElem?_eq_getElem hlt
    obtain ⟨hs, hp⟩ := zaY h hi
    obtain ⟨p0, p1⟩ := hp _ (List.getElem_mem hlt)
    have e : (r.Commits.getD i noCommit).Parents = zaf r i := rfl
    have hn : (((zaf r i)[k].toNat : Nat) : Int) = (zaf r i)[k] := by omega
    have hg : gi mk (zaf r i)[k] = some (mk.getD (zaf r i)[k].toNat false) := by
      rw [← hn]
      exact zbM (by omega)
    have hsi : siM mk (zaf r i)[k] true = some (zkK mk (zaf r i)[k]) := by
      have := zbD (xs := mk) (i := (zaf r i)[k].toNat) (by omega) true
      rw [hn] at this
      exact this
    simp only [zc0, jn, zjw hi, Option.bind_some, e, zak hx, cond_true, zbM (show i < mk.length by omega), zad hx, hg, hsi]
    cases hb : mk.getD i false with
    | false => rfl
    | true =>
      rw [cond_true, cond_true, zab hlt (by unfold maxi; omega), zoF h hi j (k + 1) m _ (by omega) (by omega) (by rw [zfU]; exact hl), zmC hb, cond_true, List.drop_eq_getElem_cons hlt, List.foldl_cons]
theorem zoG {r : Repo} (h : zag r = true) {F : List Bool → Option (List Int)} : ∀ (i m : Nat) (mk : List Bool), i ≤ r.Commits.length → i < m → mk.length = r.Commits.length →
    zbW r (fun _ y => F y) m ((i : Int) - 1) mk = F (zdQ r i mk)
  | i, 0, mk, _, hm, _ => by omega
  | 0, m + 1, mk, _, _, _ => by
    simp only [zbW]
    rw [decide_eq_false (by omega)]
    rfl
  | i + 1, m + 1, mk, hi, hm, hl => by
    have hs := (zah h).1
    have e : (((i + 1 : Nat) : Int)) - 1 = (i : Int) := by omega
    simp only [zbW, jn, e]
    rw [decide_eq_true (by omega), cond_true]
    have hp := (zaY h (show i < r.Commits.length by omega)).1
    have h2 := zoF h (show i < r.Commits.length by omega) (F := fun y27 => zbW r (fun _ y => F y) m (w64 ((i : Int) - 1)) y27) (zaf r i).length 0 4 mk (by omega) (by omega) hl
    refine (h2).trans ?_
    rw [zeQ (show i ≤ maxi by unfold maxi; omega)]
    refine (zoG h i m _ (by omega) (by omega) ?_).trans rfl
    have := zeC r i mk
    unfold zi8 at this
    rw [List.drop_zero, this]
    exact hl
theorem zmD {mk : List Bool} (hl : mk.length ≤ 1000) : ∀ (k i m : Nat) (out : List Int), i + k = mk.length → k < m → out.length ≤ i →
    zbV mk (fun y69 _ => some y69) m out (i : Int) = some (out ++ ((List.range' i k).filter fun i => mk.getD i false).map Int.ofNat)
  | k, i, 0, out, _, hm, _ => by omega
  | 0, i, m + 1, out, hi, _, _ => by
    obtain rfl : i = mk.length := by omega
    simp only [zbV, zac, cond_false]
    simp
  | k + 1, i, m + 1, out, hi, hm, ho => by
    have hlt : i < mk.length := by omega
    have hx : mk[i]? = some mk[i] := List.getElem?_eq_getElem hlt
    simp only [zbV, jn, zak hx, cond_true, zbM hlt, Option.bind_some, zab hlt (show mk.length ≤ maxi by unfold maxi; omega), ap1 (x := (i : Int)) (show out.length ≤ 1048576 by omega)]
    rw [List.range'_succ, List.filter_cons]
    cases hb : mk.getD i false with
    | true =>
      rw [cond_true, zmD hl k (i + 1) m _ (by omega) (by omega) (by simp; omega), if_pos rfl]
      simp
    | false =>
      rw [cond_false, zmD hl k (i + 1) m _ (by omega) (by omega) (by omega), if_neg (by simp)]
theorem zfl {r : Repo} (h : zag r = true) {a : Int} (h0 : 0 ≤ a) (h1 : a ≤ (r.Commits.length : Int) - 1) : zeK r a = some (za7 r a) := by
  have hs := (zah h).1
  obtain ⟨n, rfl⟩ := Int.eq_ofNat_of_zero_le h0
  have hn : n < r.Commits.length := by omega
  have hl : (List.replicate r.Commits.length false).length = r.Commits.length := by simp
  unfold zeK
  rw [zg2 (by simp [lim]; omega), Option.bind_some, zbM (by rw [hl]; exact hn), Option.bind_some, zbD (by rw [hl]; exact hn), Option.bind_some]
  simp only [jn, zal]
  have e := zoG h (F := fun y18 => zbV y18 (fun y69 _ => some y69) (y18.length + 1) ([] : List Int) 0) (n + 1) (((n : Int) + 1 - 0).toNat + 1) ((List.replicate r.Commits.length false).set n true) (by omega) (by omega) (by simp)
  rw [show (((n + 1 : Nat) : Int)) - 1 = (n : Int) by omega] at e
  refine e.trans ?_
  have hml := zaV r n
  unfold zap at hml
  have e3 := zmD (mk := zdQ r (n + 1) ((List.replicate r.Commits.length false).set n true)) (by omega) r.Commits.length 0 (r.Commits.length + 1) [] (by omega) (by omega) (by simp)
  rw [hml]
  refine e3.trans ?_
  unfold za7 zib zap
  rw [Int.toNat_natCast, hml, List.range_eq_range']
  rfl
theorem zbh {r : Repo} {a x : Int} (h : x ∈ za7 r a) : 0 ≤ x ∧ x ≤ (r.Commits.length : Int) - 1 := by
  unfold za7 zib at h
  rw [zaV] at h
  obtain ⟨i, hi, rfl⟩ := List.mem_map.1 h
  have := List.mem_range.1 (List.mem_filter.1 hi).1
  constructor
  · exact Int.natCast_nonneg i
  · show (i : Int) ≤ _; omega
theorem zcQ (r : Repo) (a : Int) : (za7 r a).length ≤ r.Commits.length := by
  unfold za7 zib
  rw [zaV, List.length_map]
  exact Nat.le_trans (List.length_filter_le _ _) (by simp)
def zeM (l : List Int) (n : Int) : Bool := l.any fun x => x == n
theorem zhC {l : List Int} (hl : l.length ≤ 1000000) (n : Int) : zfq l n = some (zeM l n) := by
  unfold zfq zeM
  simp only [jn, zal]
  rw [zcK (p := fun x : Int => x == n) (xs := l) (r := fun _ => some true) (Z := some false) (f := fun m k => zc1 l n _ m false k) (fun m i x hx => by
    simp only [zc1, zak hx, zad hx, cond_true, Option.bind_some, zab (zas hx) (show l.length ≤ maxi by unfold maxi; omega)]) (fun m => by simp only [zc1, zac, cond_false]) (by omega)]
  cases hf : l.find? (fun x => x == n) with
  | some x =>
    have : l.any (fun x => x == n) = true := List.any_eq_true.2 ⟨x, List.mem_of_find?_eq_some hf, by simpa using List.find?_some hf⟩
    rw [this]
  | none =>
    have : l.any (fun x => x == n) = false := by
      rw [List.any_eq_false]
      intro x hx
      have := List.find?_eq_none.1 hf x hx
      simpa using this
    rw [this]
theorem zis {l : List Int} {i : Nat} (h : i < l.length) : gi l (i : Int) = some (l.getD i 0) := by
  rw [zce (List.getElem?_eq_getElem h)]
  exact zad (List.getElem?_eq_getElem h)
def zjO (s : List Str) (p : Part) : Option (List Str) := bif p.Clash then none else some (s ++ p.Lines)
def zea (ps : List Part) : List Str × Bool := match ps.foldlM zjO [] with
  | some s => okT s
  | none => ([], false)
theorem zlJ {i : Nat} {s s' : List Str} {p : Part} (hp : p.Lines.length ≤ 22000) (hpl : ∀ x ∈ p.Lines, zcP x = true) (hI : zsO i s) (hst : zjO s p = some s') : zsO (i + 1) s' := by
  unfold zjO at hst
  cases hc : p.Clash with
  | true => rw [hc] at hst; cases hst
  | false =>
    rw [hc, cond_false] at hst
    cases hst
    refine ⟨by rw [List.length_append]; have := hI.1; omega, fun x hx => ?_⟩
    rcases List.mem_append.1 hx with h1 | h1
    · exact hI.2 x h1
    · exact hpl x h1
theorem zoa {o a b : List Str} (hto : zav o = true) (hta : zav a = true) (htb : zav b = true) : zhO (zbd o a b) = some (zea (zbd o a b)) := by
  obtain ⟨hlen, hparts⟩ := zkU hto hta htb
  unfold zhO zea
  simp only [jn, zal]
  obtain ⟨h1, h2⟩ := zkn (xs := zbd o a b) (step := zjO) (r0 := some (([] : List Str), false)) (Inv := zsO) (s0 := []) (Z := fun s => (zdm s).bind fun z30 => bif (!z30) then (some (([] : List Str), false)) else (some (s, true))) (f := fun m s i => zdu (zbd o a b) (fun _ _ y7 _ => (zdm y7).bind fun z30 => bif (!z30) then (some (([] : List Str), false)) else (some (y7, true))) m [] false s i) (fun m i p s hx hI => by
    have hi := zas hx
    obtain ⟨p1, p2, _⟩ := hparts p (List.mem_of_getElem? hx)
    refine ⟨?_, fun s' hst => zlJ p1 p2 hI hst⟩
    have hs := hI.1
    simp only [zdu, zak hx, zad hx, cond_true, Option.bind_some, zab hi (show (zbd o a b).length ≤ maxi by unfold maxi; omega), apT (show s.length ≤ 1000000 by omega) (show p.Lines.length ≤ 1000000 by omega)]
    unfold zjO
    cases p.Clash <;> rfl) (fun m s hI => by simp only [zdu, zac, cond_false]) (m := (zbd o a b).length + 1) (by omega) ⟨by simp, by simp⟩
  refine h1.trans ?_
  cases hf : (zbd o a b).foldlM zjO [] with
  | none => rfl
  | some s =>
    have hI := h2 s hf
    have hs := hI.1
    show (zdm s).bind _ = some (okT s)
    rw [zgI (zbS (by omega) hI.2), Option.bind_some]
    unfold okT
    cases zav s <;> rfl
theorem zob {ps : List Part} : (zea ps).2 = true → zav (zea ps).1 = true := by
  unfold zea okT
  cases ps.foldlM zjO [] with
  | none => intro h; cases h
  | some s =>
    show (bif zav s then (s, true) else (([] : List Str), false)).2 = true → zav (bif zav s then (s, true) else (([] : List Str), false)).1 = true
    cases ht : zav s with
    | true => intro _; exact ht
    | false => intro h; cases h
def getT (t : List File) (p : Str) : List Str × Bool := match t.find? (fun f => f.Path == p) with
  | some f => (f.Text, true)
  | none => ([], false)
theorem zeN {t : List File} (h : TB t) (p : Str) : zfb t p = some (getT t p) := by
  have hm := h.maxi
  unfold zfb getT
  simp only [jn, zal]
  rw [zcK (p := fun f : File => f.Path == p) (xs := t) (r := fun f => some (f.Text, true)) (Z := some (([] : List Str), false)) (f := fun m k => zc3 t p _ m [] false k) (fun m i x hx => by
    simp only [zc3, zak hx, zad hx, cond_true, Option.bind_some, zab (zas hx) hm]) (fun m => by simp only [zc3, zac, cond_false]) (by omega)]
  cases t.find? (fun f => f.Path == p) <;> rfl
theorem zlR {t : List File} (h : TB t) (p : Str) : (getT t p).1.length ≤ 1048576 ∧ Bk.fit (getT t p).1 := by
  unfold getT
  cases hf : t.find? (fun f => f.Path == p) with
  | some f =>
    have := h.2 f (List.mem_of_find?_eq_some hf)
    exact ⟨this.len, this.text⟩
  | none => exact ⟨by simp, by simp [maxi], by simp⟩
def za4 (t : List File) : Prop := ∀ f ∈ t, zav f.Text = true
theorem zbj {t : List File} (h : za4 t) (p : Str) : zav (getT t p).1 = true := by
  unfold getT
  cases hf : t.find? (fun f => f.Path == p) with
  | some f => exact h f (List.mem_of_find?_eq_some hf)
  | none => rfl
def zhj (a b : List Str × Bool) : Bool := (a.2 == b.2) && (bif a.2 then a.1 == b.1 else true)
theorem zkY {a b : List Str × Bool} (h : a.1.length ≤ 1048576) : zgh a.1 a.2 b.1 b.2 = some (zhj a b) := by
  unfold zgh zhj
  simp only [jn, zey (zan h), Option.bind_some]
  cases a.2 <;> cases b.2 <;> rfl
def oneF (o a b : List File) (p : Str) : List Str × Bool × Int :=
  let zo := getT o p; let za := getT a p; let zb := getT b p
  bif zhj za zo || zhj za zb then (zb.1, zb.2, 0)
  else bif zhj zb zo then (za.1, za.2, 0)
  else bif !za.2 || !zb.2 then (zo.1, zo.2, 1)
  else bif !zo.2 then ([], false, 2)
  else bif (zea (zbd zo.1 za.1 zb.1)).2 then ((zea (zbd zo.1 za.1 zb.1)).1, true, 0) else (zo.1, true, 3)
theorem zpo {o a b : List File} (ho : TB o) (ha : TB a) (hb : TB b) (to : za4 o) (ta : za4 a) (tb : za4 b) (p : Str) : ziT o a b p = some (oneF o a b p) := by
  have eo := zbj to p
  have ea := zbj ta p
  have eb := zbj tb p
  have lo := zam eo
  have la := zam ea
  have lb := zam eb
  unfold ziT oneF
  simp only [jn, zeN ho, zeN ha, zeN hb, Option.bind_some, zkY (a := getT a p) (zlR ha p).1, zkY (a := getT b p) (zlR hb p).1, zqH (show (getT o p).1.length ≤ 1000 by omega) (show (getT a p).1.length ≤ 1000 by omega) (show (getT b p).1.length ≤ 1000 by omega), zoa eo ea eb]
  cases zhj (getT a p) (getT o p) <;> cases zhj (getT a p) (getT b p) <;> cases zhj (getT b p) (getT o p) <;> cases (getT a p).2 <;> cases (getT b p).2 <;> cases (getT o p).2 <;> cases (zea (zbd (getT o p).1 (getT a p).1 (getT b p).1)).2 <;> rfl
theorem zkZ {o a b : List File} (to : za4 o) (ta : za4 a) (tb : za4 b) (p : Str) : zav (oneF o a b p).1 = true := by
  have eo := zbj to p
  have ea := zbj ta p
  have eb := zbj tb p
  unfold oneF
  simp only
  cases zhj (getT a p) (getT o p) || zhj (getT a p) (getT b p) with
  | true => exact eb
  | false =>
    cases zhj (getT b p) (getT o p) with
    | true => exact ea
    | false =>
      cases !(getT a p).2 || !(getT b p).2 with
      | true => exact eo
      | false =>
        cases !(getT o p).2 with
        | true => rfl
        | false =>
          cases hl : (zea (zbd (getT o p).1 (getT a p).1 (getT b p).1)).2 with
          | true => exact zob hl
          | false => exact eo
def zco (o a b : List File) : List Str := (b.map (·.Path)).foldl zfF ((a.map (·.Path)).foldl zfF ((o.map (·.Path)).foldl zfF []))
theorem zeD : ∀ (ps : List Str) (l : List Str), Asd l → Asd (ps.foldl zfF l)
  | [], l, h => h
  | p :: ps, l, h => zeD ps _ (zch _ _)
theorem zdW : ∀ (ps : List Str) (l : List Str), (ps.foldl zfF l).length ≤ l.length + ps.length
  | [], l => by simp
  | p :: ps, l => by
    have h1 := zdW ps (zfF l p)
    have h2 := zcL l p
    simp only [List.foldl_cons, List.length_cons]
    omega
theorem zga : ∀ (ps : List Str) (l : List Str) (x : Str), x ∈ ps.foldl zfF l ↔ x ∈ l ∨ x ∈ ps
  | [], l, x => by simp
  | p :: ps, l, x => by
    rw [List.foldl_cons, zga ps, insS_mem, List.mem_cons]
    constructor
    · rintro ((h | h) | h)
      · exact .inl h
      · exact .inr (.inl h)
      · exact .inr (.inr h)
    · rintro (h | h | h)
      · exact .inl (.inl h)
      · exact .inl (.inr h)
      · exact .inr h
theorem ze6 {t : List File} (h : TB t) (ht : t.length ≤ 1000) {f : Nat → List Str → Int → Option (List Str)} {Z : List Str → Option (List Str)}
    (hs : ∀ m (i : Nat) x acc, t[i]? = some x → f (m + 1) acc (i : Int) = (zdX acc x.Path).bind fun z => f m z (w64 ((i : Int) + 1))) (he : ∀ m acc, f (m + 1) acc (t.length : Int) = Z acc) : ∀ (k i m : Nat) (acc : List Str), i + k = t.length → k < m → Asd acc → acc.length ≤ 10000 + i →
    f m acc (i : Int) = Z (((t.drop i).map (·.Path)).foldl zfF acc)
  | k, i, 0, acc, _, hm, _, _ => by omega
  | 0, i, m + 1, acc, hi, _, _, _ => by
    obtain rfl : i = t.length := by omega
    rw [he, List.drop_length]; rfl
  | k + 1, i, m + 1, acc, hi, hm, ha, hl => by
    have hlt : i < t.length := by omega
    have hx : t[i]? = some t[i] := List.getElem?_eq_getElem hlt
    have hil := zcL acc t[i].Path
    rw [hs m i _ acc hx, zhy (by omega) ha, Option.bind_some, zab hlt h.maxi, ze6 h ht hs he k (i + 1) m _ (by omega) (by omega) (zch _ _) (by omega), List.drop_eq_getElem_cons hlt]
    rfl
theorem zm7 {o a b : List File} (ho : TB o) (ha : TB a) (hb : TB b) (so : o.length ≤ 100) (sa : a.length ≤ 100) (sb : b.length ≤ 100) : zgt o a b = some (zco o a b) := by
  unfold zgt zco
  simp only [jn, zal]
  have l1 := zdW (o.map (·.Path)) []
  have l2 := zdW (a.map (·.Path)) ((o.map (·.Path)).foldl zfF [])
  have a0 : Asd ([] : List Str) := List.Pairwise.nil
  have a1 := zeD (o.map (·.Path)) [] a0
  have a2 := zeD (a.map (·.Path)) _ a1
  simp only [List.length_map, List.length_nil] at l1 l2
  have e3 := fun acc (h1 : Asd acc) (h2 : acc.length ≤ 10000) => ze6 hb (by omega) (f := fun m acc i => zaR b (fun y40 _ => some y40) m acc i) (Z := fun acc => some acc) (fun m i x acc hx => by simp only [zaR, zak hx, zad hx, cond_true, Option.bind_some]) (fun m acc => by simp only [zaR, zac, cond_false]) b.length 0 (b.length + 1) acc (by omega) (by omega) h1 (by omega)
  have e2 := fun acc (h1 : Asd acc) (h2 : acc.length ≤ 10000) => ze6 ha (by omega) (f := fun m acc i => zbo a (fun y23 _ => zaR b (fun y40 _ => some y40) (b.length + 1) y23 0) m acc i) (Z := fun acc => zaR b (fun y40 _ => some y40) (b.length + 1) acc 0) (fun m i x acc hx => by simp only [zbo, zak hx, zad hx, cond_true, Option.bind_some]) (fun m acc => by simp only [zbo, zac, cond_false]) a.length 0 (a.length + 1) acc (by omega) (by omega) h1 (by omega)
  have e1 := fun acc (h1 : Asd acc) (h2 : acc.length ≤ 10000) => ze6 ho (by omega) (f := fun m acc i => zcS o (fun y6 _ => zbo a (fun y23 _ => zaR b (fun y40 _ => some y40) (b.length + 1) y23 0) (a.length + 1) y6 0) m acc i) (Z := fun acc => zbo a (fun y23 _ => zaR b (fun y40 _ => some y40) (b.length + 1) y23 0) (a.length + 1) acc 0) (fun m i x acc hx => by simp only [zcS, zak hx, zad hx, cond_true, Option.bind_some]) (fun m acc => by simp only [zcS, zac, cond_false]) o.length 0 (o.length + 1) acc (by omega) (by omega) h1 (by omega)
  refine (e1 [] a0 (by simp)).trans ?_
  rw [List.drop_zero]
  refine (e2 _ a1 (by omega)).trans ?_
  rw [List.drop_zero]
  refine (e3 _ a2 (by omega)).trans ?_
  rw [List.drop_zero]
theorem zhD (o a b : List File) : (zco o a b).length ≤ o.length + a.length + b.length := by
  unfold zco
  have l1 := zdW (o.map (·.Path)) []
  have l2 := zdW (a.map (·.Path)) ((o.map (·.Path)).foldl zfF [])
  have l3 := zdW (b.map (·.Path)) ((a.map (·.Path)).foldl zfF ((o.map (·.Path)).foldl zfF []))
  simp only [List.length_map, List.length_nil] at l1 l2 l3
  omega
theorem pathsF_mem {o a b : List File} {x : Str} : x ∈ zco o a b ↔ (∃ f ∈ o, f.Path = x) ∨ (∃ f ∈ a, f.Path = x) ∨ (∃ f ∈ b, f.Path = x) := by
  unfold zco
  rw [zga, zga, zga]
  simp only [List.mem_map, List.not_mem_nil, false_or]
  constructor
  · rintro ((h | h) | h)
    · exact .inl h
    · exact .inr (.inl h)
    · exact .inr (.inr h)
  · rintro (h | h | h)
    · exact .inl (.inl h)
    · exact .inl (.inr h)
    · exact .inr h
def zlx (o a b : List File) (p : Str) : Option File := bif (oneF o a b p).2.1 then some ⟨p, (oneF o a b p).1⟩ else none
def zjx (o a b : List File) (p : Str) : Option Clash := bif decide (0 < (oneF o a b p).2.2) then some ⟨p, (oneF o a b p).2.2⟩ else none
def zfV (o a b : List File) : List File := (zco o a b).filterMap (zlx o a b)
def zg1 (o a b : List File) : List Clash := (zco o a b).filterMap (zjx o a b)
theorem zk0 {o a b : List File} (ho : TB o) (ha : TB a) (hb : TB b) (to : za4 o) (ta : za4 a) (tb : za4 b) {ps : List Str} (hp : ps.length ≤ 1000) : ∀ (k i m : Nat) (fs : List File) (cs : List Clash), i + k = ps.length → k < m → fs.length ≤ i → cs.length ≤ i →
    zem o a b ps (fun y16 y19 _ => some (y16, y19)) m fs cs (i : Int) = some (fs ++ (ps.drop i).filterMap (zlx o a b), cs ++ (ps.drop i).filterMap (zjx o a b))
  | k, i, 0, fs, cs, _, hm, _, _ => by omega
  | 0, i, m + 1, fs, cs, hi, _, _, _ => by
    obtain rfl : i = ps.length := by omega
    simp only [zem, zac, cond_false, List.drop_length]
    simp
  | k + 1, i, m + 1, fs, cs, hi, hm, hf, hc => by
    have hlt : i < ps.length := by omega
    have hx : ps[i]? = some ps[i] := List.getElem?_eq_getElem hlt
    have ih := fun fs cs h1 h2 => zk0 ho ha hb to ta tb hp k (i + 1) m fs cs (by omega) (by omega) h1 h2
    have ht := zam (zkZ to ta tb ps[i])
    simp only [zem, jn, zak hx, zad hx, cond_true, Option.bind_some, zab hlt (show ps.length ≤ maxi by unfold maxi; omega), zpo ho ha hb to ta tb, apN (show (oneF o a b ps[i]).1.length ≤ 1048576 by omega), ap1 (x := (⟨ps[i], (oneF o a b ps[i]).1⟩ : File)) (show fs.length ≤ 1048576 by omega), ap1 (x := (⟨ps[i], (oneF o a b ps[i]).2.2⟩ : Clash)) (show cs.length ≤ 1048576 by omega)]
    rw [List.drop_eq_getElem_cons hlt, List.filterMap_cons, List.filterMap_cons]
    unfold zlx zjx at ih ⊢
    cases (oneF o a b ps[i]).2.1 <;> cases decide (0 < (oneF o a b ps[i]).2.2) <;> simp only [cond_true, cond_false]
    · rw [ih _ _ (by omega) (by omega)]
    · rw [ih _ _ (by omega) (by simp; omega)]; simp
    · rw [ih _ _ (by simp; omega) (by omega)]; simp
    · rw [ih _ _ (by simp; omega) (by simp; omega)]; simp
theorem zqI {o a b : List File} (ho : TB o) (ha : TB a) (hb : TB b) (to : za4 o) (ta : za4 a) (tb : za4 b) (so : o.length ≤ 100) (sa : a.length ≤ 100) (sb : b.length ≤ 100) : zki o a b = some (zfV o a b, zg1 o a b) := by
  have hl := zhD o a b
  unfold zki
  rw [zm7 ho ha hb so sa sb, Option.bind_some]
  simp only [jn, zal]
  have := zk0 ho ha hb to ta tb (ps := zco o a b) (by omega) (zco o a b).length 0 ((zco o a b).length + 1) [] [] (by omega) (by omega) (by simp) (by simp)
  refine this.trans ?_
  simp [zfV, zg1]
theorem zi9 {o a b : List File} (ho : TB o) (ha : TB a) (hb : TB b) (to : za4 o) (ta : za4 a) (tb : za4 b) (so : o.length ≤ 100) (sa : a.length ≤ 100) (sb : b.length ≤ 100) : TB (zfV o a b) := by
  have hl := zhD o a b
  refine ⟨Nat.le_trans (List.length_filterMap_le _ _) (by omega), fun f hf => ?_⟩
  obtain ⟨p, hp, he⟩ := List.mem_filterMap.1 hf
  unfold zlx at he
  cases h2 : (oneF o a b p).2.1 with
  | false => rw [h2] at he; cases he
  | true =>
    rw [h2, cond_true] at he
    cases he
    have ht := zkZ to ta tb p
    have hlen := zam ht
    refine ⟨?_, by show (oneF o a b p).1.length ≤ _; omega, zbS (s := (oneF o a b p).1) (by omega) (zaS ht)⟩
    rcases pathsF_mem.1 hp with ⟨g, hg, e⟩ | ⟨g, hg, e⟩ | ⟨g, hg, e⟩
    · rw [← e]; exact (ho.2 g hg).path
    · rw [← e]; exact (ha.2 g hg).path
    · rw [← e]; exact (hb.2 g hg).path
def zdR (o a b : List File) : List File × List Clash := bif ((zg1 o a b).length : Int) == 0 && !zaE (zfV o a b) then (o, [⟨[], 4⟩]) else (zfV o a b, zg1 o a b)
theorem zmE {o a b : List File} (ho : TB o) (ha : TB a) (hb : TB b) (to : za4 o) (ta : za4 a) (tb : za4 b) (so : o.length ≤ 100) (sa : a.length ≤ 100) (sb : b.length ≤ 100) : zgU o a b = some (zdR o a b) := by
  unfold zgU zdR
  simp only [jn, zqI ho ha hb to ta tb so sa sb, Option.bind_some, zin (zi9 ho ha hb to ta tb so sa sb), zf9 ho]
  cases (((zg1 o a b).length : Int) == 0) <;> cases zaE (zfV o a b) <;> rfl
theorem zly {o a b : List File} (ho : TB o) (ha : TB a) (hb : TB b) (to : za4 o) (ta : za4 a) (tb : za4 b) (so : o.length ≤ 100) (sa : a.length ≤ 100) (sb : b.length ≤ 100) : TB (zdR o a b).1 := by
  unfold zdR
  cases (((zg1 o a b).length : Int) == 0 && !zaE (zfV o a b))
  · exact zi9 ho ha hb to ta tb so sa sb
  · exact ho
theorem zaj {t : List File} (h : zaE t = true) : za4 t := by
  intro f hf
  obtain ⟨i, hi⟩ := List.mem_iff_getElem?.1 hf
  unfold zaE at h
  simp only [Bool.and_eq_true] at h
  have := zaJ.1 h.2 i (Nat.zero_le _) (by have := zas hi; omega)
  unfold zgp zgo at this
  rw [zbB hi] at this
  simp only [Bool.and_eq_true] at this
  exact this.1.2.1
theorem za1 {t : List File} (h : zaE t = true) {f : File} (hf : f ∈ t) : zaL f.Path = true := by
  obtain ⟨i, hi⟩ := List.mem_iff_getElem?.1 hf
  unfold zaE at h
  simp only [Bool.and_eq_true] at h
  have := zaJ.1 h.2 i (Nat.zero_le _) (by have := zas hi; omega)
  unfold zgp zgo at this
  rw [zbB hi] at this
  simp only [Bool.and_eq_true] at this
  exact this.1.1
theorem zh3 (c : UInt8) : ∀ (r w : Str), w.length + r.length + 1 = sumB (fun p => p.length + 1) (curS c w r)
  | [], w => by simp [curS, sumB]
  | x :: r, w => by
    unfold curS
    cases x == c with
    | true =>
      rw [cond_true]
      have := zh3 c r []
      simp only [sumB, List.length_nil, List.length_cons] at this ⊢
      omega
    | false =>
      rw [cond_false]
      have := zh3 c r (w ++ [x])
      simp only [List.length_append, List.length_cons, List.length_nil] at this ⊢
      omega
theorem zoH {c : Nat} : ∀ {l : List Str}, (∀ p ∈ l, p.length + 1 ≤ c) → sumB (fun p => p.length + 1) l ≤ c * l.length
  | [], _ => by simp [sumB]
  | x :: l, h => by
    have h1 := h x (by simp)
    have h2 := zoH (c := c) (l := l) (fun p hp => h p (List.mem_cons_of_mem _ hp))
    simp only [sumB, List.length_cons, Nat.mul_add, Nat.mul_one]
    omega
theorem zbw {s : Str} (h : zaC s = true) : s.length ≤ 6 := by
  unfold zaC at h
  simp only [Bool.and_eq_true, decide_eq_true_eq] at h
  omega
theorem zcG {s : Str} (h : zaL s = true) : s.length ≤ 20 := by
  unfold zaL at h
  simp only [Bool.and_eq_true, decide_eq_true_eq, List.all_eq_true] at h
  have h1 := zh3 47 s []
  have h2 := zoH (c := 7) (l := curS 47 [] s) (fun p hp => by have := zbw (h.2 p hp); omega)
  simp only [List.length_nil] at h1
  omega
structure Gd (q : Prop) (r : Repo) : Prop where
  rb : RpB r
  ok : zag r = true
  hd : q → r.Commits ≠ [] → r.Heads ≠ []
variable {q : Prop}
def zaB (r : Repo) (i : Nat) : List File := (r.Commits.getD i noCommit).Tree
theorem Gd.tree {r : Repo} (h : Gd q r) {i : Nat} (hi : i < r.Commits.length) : TB (zaB r i) ∧ zaE (zaB r i) = true ∧ za4 (zaB r i) ∧ (zaB r i).length ≤ 8 := by
  have hx : r.Commits[i]? = some r.Commits[i] := List.getElem?_eq_getElem hi
  have h1 : zaE (zaB r i) = true := by
    have := zfT h.ok hi
    unfold zlN at this
    simp only [Bool.and_eq_true] at this
    exact this.2.2.2.2
  refine ⟨?_, h1, zaj h1, zaw h1⟩
  unfold zaB
  rw [zd9 hx]
  exact (h.rb.cat hx).tree
theorem ziN : TB ([] : List File) ∧ zaE [] = true ∧ za4 [] ∧ ([] : List File).length ≤ 8 := ⟨TB.nil, rfl, fun f hf => by simp at hf, by simp⟩
theorem zdc {r : Repo} {z : Int} (h0 : 0 ≤ z) (h1 : z ≤ (r.Commits.length : Int) - 1) : gi r.Commits z = some (r.Commits.getD z.toNat noCommit) := by
  obtain ⟨n, rfl⟩ := Int.eq_ofNat_of_zero_le h0
  exact zjw (by omega)
theorem zkz (n : Str) (a : Int) : ∀ (hs : List Head), zeI n a false hs ≠ []
  | [] => by simp [zeI]
  | h :: hs => by
    unfold zeI
    cases hb : Op.bytesLess h.Name n
    · simp
    · have := zkz n a hs
      cases (h.Name != n) <;> simp [this]
def ze7 (n : Str) (a : Int) (h : Head) : Head := bif h.Name == n then ⟨n, a⟩ else h
theorem zja (n : Str) (a : Int) : ∀ (hs : List Head), (∀ h ∈ hs, h.Name ≠ n) → zeI n a true hs = hs
  | [], _ => rfl
  | h :: hs, hn => by
    have h1 : (h.Name != n) = true := by simpa using hn h (by simp)
    unfold zeI
    rw [h1, Bool.true_or, zja n a hs (fun x hx => hn x (List.mem_cons_of_mem _ hx))]
    rfl
theorem zhE (n : Str) (a : Int) : ∀ (hs : List Head), hs.Pairwise (fun x y => x.Name < y.Name) → (∃ h ∈ hs, h.Name = n) → zeI n a false hs = hs.map (ze7 n a)
  | [], _, h => by obtain ⟨x, hx, _⟩ := h; simp at hx
  | h :: hs, hp, he => by
    obtain ⟨p1, p2⟩ := List.pairwise_cons.1 hp
    unfold zeI
    rw [List.map_cons]
    cases hb : Op.bytesLess h.Name n with
    | true =>
      rw [za2] at hb
      have hlt : h.Name < n := by simpa using hb
      have hne : h.Name ≠ n := fun e => by rw [e] at hlt; exact zao _ hlt
      have h1 : (h.Name != n) = true := by simpa using hne
      have h2 : (h.Name == n) = false := beq_false_of_ne hne
      have ht : ∃ x ∈ hs, x.Name = n := by
        obtain ⟨x, hx, e⟩ := he
        rcases List.mem_cons.1 hx with e2 | e2
        · rw [e2] at e; exact absurd e hne
        · exact ⟨x, e2, e⟩
      rw [h1]
      simp only [Bool.not_true, Bool.and_false, cond_false, cond_true, List.nil_append, Bool.or_false, List.singleton_append]
      rw [zhE n a hs p2 ht]
      unfold ze7
      rw [h2]
      rfl
    | false =>
      rw [za2] at hb
      have hge : n ≤ h.Name := zhI.1 (by simpa using hb)
      cases h2 : h.Name == n with
      | true =>
        have e : h.Name = n := by simpa using h2
        have h1 : (h.Name != n) = false := by rw [bne, h2]; rfl
        have hno : ∀ x ∈ hs, x.Name ≠ n := fun x hx e2 => by
          have := p1 x hx
          rw [e, e2] at this
          exact zao _ this
        rw [h1, Bool.not_false, Bool.or_true, zja n a hs hno]
        have hm : hs.map (ze7 n a) = hs := by
          conv => rhs; rw [← List.map_id hs]
          refine List.map_congr_left (fun x hx => ?_)
          unfold ze7
          rw [beq_false_of_ne (hno x hx)]
          rfl
        rw [hm]
        unfold ze7
        rw [h2]
        rfl
      | false =>
        exfalso
        have hne : n ≠ h.Name := fun e => by rw [e] at h2; simp at h2
        have hlt := zbv hge hne
        obtain ⟨x, hx, e⟩ := he
        rcases List.mem_cons.1 hx with e2 | e2
        · rw [e2] at e; exact hne e.symm
        · have := p1 x e2
          rw [e] at this
          exact zao _ (za8 hlt this)
theorem zit {r : Repo} (h : zag r = true) : r.Heads.Pairwise (fun x y => x.Name < y.Name) := by
  unfold zag zde at h
  simp only [Bool.and_eq_true] at h
  have hg := zaJ.1 h.2.2.1
  have step : ∀ i, (hi : i + 1 < r.Heads.length) → (r.Heads[i]'(by omega)).Name < r.Heads[i + 1].Name := fun i hi => by
    have := hg (i + 1) (by omega) (by omega)
    unfold zf8 at this
    rw [zbX (List.getElem?_eq_getElem hi), decide_eq_true (by omega), Nat.add_sub_cancel, zbX (List.getElem?_eq_getElem (show i < r.Heads.length by omega))] at this
    simp only [cond_true, Bool.and_eq_true, za2, decide_eq_true_eq] at this
    exact this.2.2
  refine List.pairwise_iff_getElem.2 fun i j hi hj hij => ?_
  induction j with
  | zero => omega
  | succ j ih =>
    rcases Nat.lt_or_ge i j with h1 | h1
    · exact za8 (ih (by omega) h1) (step j hj)
    · have : i = j := by omega
      subst this
      exact step i hj
theorem znX {r : Repo} {n : Str} (h : 0 ≤ atB r n) : ∃ x ∈ r.Heads, x.Name = n := by
  unfold atB at h
  cases hf : r.Heads.find? (fun h => h.Name == n) with
  | none => rw [hf] at h; simp at h
  | some x => exact ⟨x, List.mem_of_find?_eq_some hf, by simpa using List.find?_some hf⟩
theorem zk1 {r : Repo} (h : zag r = true) {n : Str} (ha : 0 ≤ atB r n) (b : Int) : headR r n b = ⟨r.Commits, r.Heads.map (ze7 n b)⟩ := by
  unfold headR
  rw [zhE n b r.Heads (zit h) (znX ha)]
theorem zoI {r : Repo} (h : zag r = true) {n : Str} (ha : 0 ≤ atB r n) {b : Int} (h0 : 0 ≤ b) (h1 : b ≤ (r.Commits.length : Int) - 1) : zag (headR r n b) = true := by
  rw [zk1 h ha]
  have hh := h
  unfold zag zde at h ⊢
  simp only [Bool.and_eq_true, List.length_map] at h ⊢
  refine ⟨h.1, h.2.1, ?_, h.2.2.2⟩
  have hg := zaJ.1 h.2.2.1
  refine zaJ.2 fun i hi0 hi => ?_
  have hil : i < r.Heads.length := by omega
  have hx : r.Heads[i]? = some r.Heads[i] := List.getElem?_eq_getElem hil
  have hm : ∀ j, j < r.Heads.length → ((r.Heads.map (ze7 n b)).getD j zeB).Name = (r.Heads.getD j zeB).Name := fun j hj => by
    have hxj : r.Heads[j]? = some r.Heads[j] := List.getElem?_eq_getElem hj
    rw [zbX hxj, zbX (f := ze7 n b r.Heads[j]) (by rw [List.getElem?_map, hxj]; rfl)]
    unfold ze7
    cases he : r.Heads[j].Name == n with
    | true => simpa using (by simpa using he : r.Heads[j].Name = n).symm
    | false => rfl
  have hat : upB r.Commits.length ((r.Heads.map (ze7 n b)).getD i zeB).At = true := by
    rw [zbX (f := ze7 n b r.Heads[i]) (by rw [List.getElem?_map, hx]; rfl)]
    unfold ze7 upB
    cases r.Heads[i].Name == n with
    | true => simp [h0, h1]
    | false =>
      have := zgz hh (List.getElem_mem hil)
      simp [this.1, this.2.1]
  have := hg i hi0 (by omega)
  unfold zf8 at this ⊢
  simp only [Bool.and_eq_true] at this ⊢
  refine ⟨by rw [hm i hil]; exact this.1, hat, ?_⟩
  rw [hm i hil, hm (i - 1) (by omega)]
  exact this.2.2
def zfW (r : Repo) (n : Str) (c : Commit) : Repo × Int := bif zag (addR r n c) then (addR r n c, 0) else (r, 5)
theorem Gd.add {r : Repo} (h : Gd q r) {n : Str} {c : Commit} (hn : n.length ≤ 1048576) (hc : CB c) (ho : zag (addR r n c) = true) : Gd q (addR r n c) := by
  obtain ⟨s1, s2⟩ := zah h.ok
  exact ⟨h.rb.addR (by omega) (by omega) hn hc, ho, fun _ _ => zkz _ _ _⟩
theorem Gd.head {r : Repo} (h : Gd q r) {n : Str} {b : Int} (hn : n.length ≤ 1048576) (ho : zag (headR r n b) = true) : Gd q (headR r n b) := by
  obtain ⟨s1, s2⟩ := zah h.ok
  exact ⟨h.rb.headR (by omega) hn b, ho, fun _ _ => zkz _ _ _⟩
theorem zjX {r : Repo} (h : Gd q r) {n : Str} {c : Commit} (hn : n.length ≤ 1048576) (hc : CB c) : Gd q (zfW r n c).1 := by
  unfold zfW
  cases ho : zag (addR r n c) with
  | true => exact h.add hn hc ho
  | false => exact h
theorem zmF {r : Repo} (h : Gd q r) {n : Str} {c : Commit} (hn : n.length ≤ 1048576) (hc : CB c) : ((zeL r n c).bind fun z130 => (zc7 z130).bind fun z163 => bif (!z163) then (some (r, (5 : Int))) else (some (z130, 0))) = some (zfW r n c) := by
  obtain ⟨s1, s2⟩ := zah h.ok
  rw [znW h.rb (by omega) (by omega) n hc, Option.bind_some, zeR (h.rb.addR (by omega) (by omega) hn hc), Option.bind_some]
  unfold zfW
  cases zag (addR r n c) <;> rfl
def zm0 (r : Repo) (n who : Str) (b : Int) : Bool := decide (atB r n < 0) || (!zaC who || !upB r.Commits.length b)
theorem zmG {r : Repo} {n who : Str} {b : Int} (h : zm0 r n who b = false) : 0 ≤ atB r n ∧ 0 ≤ b ∧ b ≤ (r.Commits.length : Int) - 1 := by
  unfold zm0 upB at h
  simp only [Bool.or_eq_false_iff, decide_eq_false_iff_not, Bool.not_eq_false', Bool.and_eq_true, decide_eq_true_eq] at h
  omega
def zd6 (r : Repo) (i : Nat) : List File := bif ((zaf r i).length : Int) == 0 then [] else zaB r ((zaf r i).getD 0 0).toNat
theorem zjl {r : Repo} (h : Gd q r) {a : Int} (h0 : 0 ≤ a) (h1 : a ≤ (r.Commits.length : Int) - 1) : zcM r a = some (zd6 r a.toNat) ∧ TB (zd6 r a.toNat) ∧ zaE (zd6 r a.toNat) = true := by
  have hi : a.toNat < r.Commits.length := by omega
  obtain ⟨ps, pm⟩ := zaY h.ok hi
  unfold zcM zd6
  rw [zdc h0 h1, Option.bind_some]
  show (bif ((zaf r a.toNat).length : Int) == 0 then _ else _) = _ ∧ _
  cases hz : ((zaf r a.toNat).length : Int) == 0 with
  | true => exact ⟨rfl, ziN.1, ziN.2.1⟩
  | false =>
    have hne : ((zaf r a.toNat).length : Int) ≠ 0 := by simpa using hz
    have hlt : 0 < (zaf r a.toNat).length := by omega
    have hm : (zaf r a.toNat).getD 0 0 ∈ zaf r a.toNat := by
      rw [zce (List.getElem?_eq_getElem hlt)]; exact List.getElem_mem hlt
    obtain ⟨q0, q1⟩ := pm _ hm
    have hg : gi (r.Commits.getD a.toNat noCommit).Parents 0 = some ((zaf r a.toNat).getD 0 0) := zis (l := zaf r a.toNat) hlt
    rw [cond_false, cond_false, Option.bind_some, hg, Option.bind_some, zdc q0 (by omega), Option.bind_some]
    have := h.tree (i := ((zaf r a.toNat).getD 0 0).toNat) (by omega)
    exact ⟨rfl, this.1, this.2.1⟩
def zh4 (r : Repo) (n who : Str) (o b : List File) : Repo × Int :=
  let j := zdR o (zaB r (atB r n).toNat) b
  bif decide (0 < (j.2.length : Int)) then (r, 4) else zfW r n ⟨[atB r n], who, j.1⟩
theorem znC {r : Repo} (h : Gd q r) {n who : Str} {o b : List File} (hn : n.length ≤ 1048576) (hw : who.length ≤ 1048576) (ha : 0 ≤ atB r n) (to : TB o) (to2 : zaE o = true) (tb : TB b) (tb2 : zaE b = true) : zdZ r n who o b = some (zh4 r n who o b) ∧ Gd q (zh4 r n who o b).1 := by
  have ha' : atB r n ≤ (r.Commits.length : Int) - 1 := by rcases at_range h.ok n with e | e <;> omega
  have hs := (zah h.ok).1
  obtain ⟨ta, ta2, ta3, ta4⟩ := h.tree (i := (atB r n).toNat) (by omega)
  have ho := zaw to2
  have hb := zaw tb2
  have hj := zly to ta tb (zaj to2) ta3 (zaj tb2) (by omega) (by omega) (by omega)
  have hc : CB ⟨[atB r n], who, (zdR o (zaB r (atB r n).toNat) b).1⟩ := ⟨by simp, hw, hj⟩
  have hjoin := zmE to ta tb (zaj to2) ta3 (zaj tb2) (by omega) (by omega) (by omega)
  unfold zdZ zh4
  rw [zeJ h.rb, Option.bind_some, zdc ha ha', Option.bind_some]
  unfold zaB at hjoin hc ⊢
  rw [hjoin, Option.bind_some]
  simp only
  cases decide (0 < ((zdR o (r.Commits.getD (atB r n).toNat noCommit).Tree b).2.length : Int)) with
  | true => exact ⟨rfl, h⟩
  | false => exact ⟨zmF h hn hc, zjX h hn hc⟩
end Go.Vm
namespace Go.Vm
open Go Go.Sx
set_option linter.unusedSimpArgs false
set_option linter.unusedVariables false
section
variable {r : l30Rd} {p : Int}
structure Drawn (r : Repo) : Prop where
  rb : RpB r
  coms : r.Commits.length ≤ 16
  heads : r.Heads.length ≤ 6
theorem Gd.drawn {r : Repo} (h : Gd True r) : Drawn r := by
  obtain ⟨s1, s2⟩ := zah h.ok
  exact ⟨h.rb, s1, by omega⟩
end
inductive Rc (r : Repo) : Nat → Nat → Prop
  | refl (a : Nat) : Rc r a a
  | step {a b : Nat} {p : Int} : Rc r a b → p ∈ zaf r b → Rc r a p.toNat
theorem Rc.trans {r : Repo} {a b c : Nat} (h : Rc r a b) (k : Rc r b c) : Rc r a c := by
  induction k with
  | refl => exact h
  | step _ hp ih => exact Rc.step ih hp
theorem Rc.head {r : Repo} {a c : Nat} (h : Rc r a c) : c = a ∨ ∃ p ∈ zaf r a, Rc r p.toNat c := by
  induction h with
  | refl => exact .inl rfl
  | @step b p hb hp ih =>
    rcases ih with e | ⟨q, hq, hc⟩
    · subst e
      exact .inr ⟨p, hp, Rc.refl _⟩
    · exact .inr ⟨q, hq, Rc.step hc hp⟩
theorem Rc.le {r : Repo} (hr : zag r = true) {a c : Nat} (ha : a < r.Commits.length) (h : Rc r a c) : c ≤ a ∧ c < r.Commits.length := by
  induction h with
  | refl => exact ⟨Nat.le_refl _, ha⟩
  | step _ hp ih =>
    have := (zaY hr ih.2).2 _ hp
    omega
def mkd (mk : List Bool) (j : Nat) : Prop := mk.getD j false = true
theorem zjP {mk : List Bool} {j : Nat} (h : mkd mk j) : j < mk.length := by
  unfold mkd at h
  rcases Nat.lt_or_ge j mk.length with h1 | h1
  · exact h1
  · rw [List.getD, List.getElem?_eq_none (by omega)] at h; simp at h
theorem zkL {mk : List Bool} {p : Int} {j : Nat} : mkd (zkK mk p) j ↔ mkd mk j ∨ (j = p.toNat ∧ j < mk.length) := by
  unfold mkd zkK
  by_cases e : p.toNat = j
  · subst e
    by_cases hl : p.toNat < mk.length
    · simp [List.getD, hl]
    · rw [List.set_eq_of_length_le (by omega)]
      simp [hl]
  · simp only [List.getD, List.getElem?_set_ne e]
    constructor
    · exact .inl
    · rintro (h | ⟨h, _⟩)
      · exact h
      · exact absurd h.symm e
theorem zjb : ∀ (ps : List Int) (mk : List Bool) (j : Nat), mkd (ps.foldl zkK mk) j ↔ mkd mk j ∨ (∃ p ∈ ps, j = p.toNat ∧ j < mk.length)
  | [], mk, j => by simp
  | p :: ps, mk, j => by
    rw [List.foldl_cons, zjb ps, zkL, zfU]
    constructor
    · rintro ((h | h) | ⟨q, hq, h⟩)
      · exact .inl h
      · exact .inr ⟨p, by simp, h⟩
      · exact .inr ⟨q, List.mem_cons_of_mem _ hq, h⟩
    · rintro (h | ⟨q, hq, h⟩)
      · exact .inl (.inl h)
      · rcases List.mem_cons.1 hq with e | e
        · subst e; exact .inl (.inr h)
        · exact .inr ⟨q, e, h⟩
theorem stepM_mkd {r : Repo} {i : Nat} {mk : List Bool} {j : Nat} : mkd (zi8 r i mk) j ↔ mkd mk j ∨ (mkd mk i ∧ ∃ p ∈ zaf r i, j = p.toNat ∧ j < mk.length) := by
  unfold zi8
  cases hb : mk.getD i false with
  | true =>
    rw [cond_true, zjb]
    constructor
    · rintro (h | h)
      · exact .inl h
      · exact .inr ⟨hb, h⟩
    · rintro (h | ⟨_, h⟩)
      · exact .inl h
      · exact .inr h
  | false =>
    rw [cond_false]
    constructor
    · exact .inl
    · rintro (h | ⟨h, _⟩)
      · exact h
      · unfold mkd at h; rw [hb] at h; cases h
def ztm (r : Repo) (a i : Nat) (mk : List Bool) : Prop := (∀ j, mkd mk j → Rc r a j) ∧ mkd mk a ∧ ∀ j, i ≤ j → mkd mk j → ∀ p ∈ zaf r j, mkd mk p.toNat
theorem zhF {r : Repo} (hr : zag r = true) {a : Nat} : ∀ (i : Nat) (mk : List Bool), i ≤ r.Commits.length → mk.length = r.Commits.length → ztm r a i mk → ztm r a 0 (zdQ r i mk)
  | 0, mk, _, _, h => h
  | i + 1, mk, hi, hl, h => by
    unfold zdQ
    refine zhF hr i _ (by omega) (by rw [zeC]; exact hl) ?_
    obtain ⟨h1, h2, h3⟩ := h
    have hp := (zaY hr (show i < r.Commits.length by omega)).2
    refine ⟨fun j hj => ?_, stepM_mkd.2 (.inl h2), fun j hij hj p hpj => ?_⟩
    · rcases stepM_mkd.1 hj with h | ⟨h, p, hpp, e, _⟩
      · exact h1 j h
      · rw [e]; exact Rc.step (h1 i h) hpp
    · have hj' : mkd mk j := by
        rcases stepM_mkd.1 hj with h | ⟨h, q, hqq, e, _⟩
        · exact h
        · have := hp q hqq; omega
      have hjl := zjP hj'
      have hpb := (zaY hr (show j < r.Commits.length by omega)).2 p hpj
      rcases Nat.lt_or_ge i j with h4 | h4
      · exact stepM_mkd.2 (.inl (h3 j (by omega) hj' p hpj))
      · have e : j = i := by omega
        subst e
        exact stepM_mkd.2 (.inr ⟨hj', p, hpj, rfl, by omega⟩)
theorem zcY {r : Repo} (hr : zag r = true) {a : Nat} (ha : a < r.Commits.length) (j : Nat) : mkd (zap r a) j ↔ Rc r a j := by
  have h0 : ztm r a (a + 1) ((List.replicate r.Commits.length false).set a true) := by
    have hm : ∀ j, mkd ((List.replicate r.Commits.length false).set a true) j ↔ j = a := fun j => by
      have := zkL (mk := List.replicate r.Commits.length false) (p := (a : Int)) (j := j)
      unfold zkK at this
      rw [Int.toNat_natCast] at this
      rw [this]
      constructor
      · rintro (h | h)
        · unfold mkd at h
          rw [List.getD, List.getElem?_replicate] at h
          split at h <;> simp at h
        · exact h.1
      · intro e
        exact .inr ⟨e, by rw [e]; simpa using ha⟩
    refine ⟨fun j hj => ?_, (hm a).2 rfl, fun j hij hj => ?_⟩
    · rw [(hm j).1 hj]; exact Rc.refl _
    · have := (hm j).1 hj; omega
  have h := zhF hr (a + 1) _ (by omega) (by simp) h0
  constructor
  · exact h.1 j
  · intro hc
    induction hc with
    | refl => exact h.2.1
    | step _ hp ih => exact h.2.2 _ (Nat.zero_le _) ih _ hp
theorem zb0 {r : Repo} (hr : zag r = true) {a : Int} (h0 : 0 ≤ a) (h1 : a ≤ (r.Commits.length : Int) - 1) (x : Int) : x ∈ za7 r a ↔ 0 ≤ x ∧ Rc r a.toNat x.toNat := by
  unfold za7 zib
  rw [zaV, List.mem_map]
  constructor
  · rintro ⟨i, hi, rfl⟩
    rw [List.mem_filter, List.mem_range] at hi
    exact ⟨Int.natCast_nonneg i, (zcY hr (show a.toNat < r.Commits.length by omega) i).1 hi.2⟩
  · rintro ⟨hx, h⟩
    have hl := (h.le hr (by omega)).2
    exact ⟨x.toNat, List.mem_filter.2 ⟨List.mem_range.2 hl, (zcY hr (show a.toNat < r.Commits.length by omega) x.toNat).2 h⟩, Int.toNat_of_nonneg hx⟩
theorem zba {l : List Int} {n : Int} : zeM l n = true ↔ n ∈ l := by
  unfold zeM
  rw [List.any_eq_true]
  constructor
  · rintro ⟨x, hx, e⟩
    have : x = n := by simpa using e
    rw [← this]; exact hx
  · intro h
    exact ⟨n, h, by simp⟩
def zgq (l : List Int) : Prop := l.Pairwise (· < ·)
theorem zjc (n : Nat) : (List.range n).Pairwise (· < ·) := List.pairwise_lt_range
theorem zgC (mk : List Bool) : zgq (zib mk) := by
  unfold zgq zib
  rw [List.pairwise_map]
  exact ((zjc _).sublist (List.filter_sublist)).imp fun h => by simpa using h
theorem zg5 (r : Repo) (a : Int) : zgq (za7 r a) := zgC _
theorem zgq.ext : ∀ {xs ys : List Int}, zgq xs → zgq ys → (∀ a, a ∈ xs ↔ a ∈ ys) → xs = ys
  | [], [], _, _, _ => rfl
  | [], y :: ys, _, _, h => by have := (h y).2 (by simp); simp at this
  | x :: xs, [], _, _, h => by have := (h x).1 (by simp); simp at this
  | x :: xs, y :: ys, hx, hy, h => by
    have hx' := List.pairwise_cons.1 hx
    have hy' := List.pairwise_cons.1 hy
    have e : x = y := by
      rcases List.mem_cons.1 ((h x).1 (by simp)) with e | hm
      · exact e
      · rcases List.mem_cons.1 ((h y).2 (by simp)) with e | hm2
        · exact e.symm
        · have h1 := hx'.1 y hm2
          have h2 := hy'.1 x hm
          omega
    subst e
    rw [zgq.ext hx'.2 hy'.2 (fun a => by
      constructor
      · intro ha
        rcases List.mem_cons.1 ((h a).1 (List.mem_cons_of_mem _ ha)) with e2 | e2
        · have := hx'.1 a ha; omega
        · exact e2
      · intro ha
        rcases List.mem_cons.1 ((h a).2 (List.mem_cons_of_mem _ ha)) with e2 | e2
        · have := hy'.1 a ha; omega
        · exact e2)]
theorem zmH {r : Repo} (h : zag r = true) {i : Nat} (hi : i < r.Commits.length) {F : List Bool → Option (List Bool)} : ∀ (j k m : Nat) (mk : List Bool), k + j = (zaf r i).length → j < m → mk.length = r.Commits.length →
    zaX F (r.Commits.getD i noCommit) m (k : Int) mk = F (((zaf r i).drop k).foldl zkK mk)
  | j, k, 0, mk, _, hm, _ => by omega
  | 0, k, m + 1, mk, hk, _, hl => by
    obtain rfl : k = (zaf r i).length := by omega
    have e : (r.Commits.getD i noCommit).Parents = zaf r i := rfl
    simp only [zaX, e, zac, cond_false, List.drop_length, List.foldl_nil]
  | j + 1, k, m + 1, mk, hk, hm, hl => by
    have hlt : k < (zaf r i).length := by omega
    have hx : (zaf r i)[k]? = some (zaf r i)[k] := List.getElem?_eq_getElem hlt
    obtain ⟨hs, hp⟩ := zaY h hi
    obtain ⟨p0, p1⟩ := hp _ (List.getElem_mem hlt)
    have e : (r.Commits.getD i noCommit).Parents = zaf r i := rfl
    have hn : (((zaf r i)[k].toNat : Nat) : Int) = (zaf r i)[k] := by omega
    have hg : gi mk (zaf r i)[k] = some (mk.getD (zaf r i)[k].toNat false) := by
      rw [← hn]
      exact zbM (by omega)
    have hsi : siM mk (zaf r i)[k] true = some (zkK mk (zaf r i)[k]) := by
      have := zbD (xs := mk) (i := (zaf r i)[k].toNat) (by omega) true
      rw [hn] at this
      exact this
    simp only [zaX, e, zak hx, cond_true, zad hx, hg, hsi, Option.bind_some]
    rw [zab hlt (by unfold maxi; omega), zmH h hi j (k + 1) m _ (by omega) (by omega) (by rw [zfU]; exact hl), List.drop_eq_getElem_cons hlt, List.foldl_cons]
theorem zmI {r : Repo} (h : zag r = true) : ∀ (i m : Nat) (mk : List Bool), i ≤ r.Commits.length → i < m → mk.length = r.Commits.length →
    zaD r (fun _ y => some y) m ((i : Int) - 1) mk = some (zdQ r i mk)
  | i, 0, mk, _, hm, _ => by omega
  | 0, m + 1, mk, _, _, _ => by
    simp only [zaD]
    rw [decide_eq_false (by omega)]
    rfl
  | i + 1, m + 1, mk, hi, hm, hl => by
    have hs := (zah h).1
    have hil : i < r.Commits.length := by omega
    have e : (((i + 1 : Nat) : Int)) - 1 = (i : Int) := by omega
    have e0 : (r.Commits.getD i noCommit).Parents = zaf r i := rfl
    have hstep : (((i : Int) - 1)) = (i : Int) - 1 := rfl
    simp only [zaD, jn, e]
    rw [decide_eq_true (by omega), cond_true, zbM (by omega), Option.bind_some]
    have ih := zmI h i m (zi8 r i mk) (by omega) (by omega) (by rw [zeC]; exact hl)
    unfold zdQ
    rw [← ih]
    unfold zi8
    have hw : w64 ((i : Int) - 1) = (i : Int) - 1 := zeQ (show i ≤ maxi by unfold maxi; omega)
    cases mk.getD i false with
    | false => simp only [cond_false, hw]
    | true =>
      have h2 := zmH h hil (F := fun y27 => zaD r (fun _ y => some y) m (w64 ((i : Int) - 1)) y27) (zaf r i).length 0 ((zaf r i).length + 1) mk (by omega) (by omega) hl
      simp only [cond_true, zjw hil, Option.bind_some, e0, zal]
      refine h2.trans ?_
      rw [List.drop_zero, hw]
theorem zci {r : Repo} (h : zag r = true) {a : Int} (h0 : 0 ≤ a) (h1 : a ≤ (r.Commits.length : Int) - 1) : zaQ r a = some (zap r a.toNat) := by
  have hs := (zah h).1
  obtain ⟨n, rfl⟩ := Int.eq_ofNat_of_zero_le h0
  have hn : n < r.Commits.length := by omega
  have hl : (List.replicate r.Commits.length false).length = r.Commits.length := by simp
  unfold zaQ zap
  rw [zg2 (by simp [lim]; omega), Option.bind_some, zbM (by rw [hl]; exact hn), Option.bind_some, zbD (by rw [hl]; exact hn), Option.bind_some]
  simp only [jn]
  have e := zmI h (n + 1) (((n : Int) + 1 - 0).toNat + 1) ((List.replicate r.Commits.length false).set n true) (by omega) (by omega) (by simp)
  rw [show (((n + 1 : Nat) : Int)) - 1 = (n : Int) by omega] at e
  refine e.trans ?_
  rw [Int.toNat_natCast]
theorem zgb {mk : List Bool} (hl : mk.length ≤ 1000) : ∀ (k i m : Nat) (out : List Int), i + k = mk.length → k < m → out.length ≤ i →
    zcC mk (fun y69 _ => some y69) m out (i : Int) = some (out ++ ((List.range' i k).filter fun i => mk.getD i false).map Int.ofNat)
  | k, i, 0, out, _, hm, _ => by omega
  | 0, i, m + 1, out, hi, _, _ => by
    obtain rfl : i = mk.length := by omega
    simp only [zcC, zac, cond_false]
    simp
  | k + 1, i, m + 1, out, hi, hm, ho => by
    have hlt : i < mk.length := by omega
    have hx : mk[i]? = some mk[i] := List.getElem?_eq_getElem hlt
    simp only [zcC, jn, zak hx, cond_true, zbM hlt, Option.bind_some, zab hlt (show mk.length ≤ maxi by unfold maxi; omega), ap1 (x := (i : Int)) (show out.length ≤ 1048576 by omega)]
    rw [List.range'_succ, List.filter_cons]
    cases hb : mk.getD i false with
    | true =>
      rw [cond_true, zgb hl k (i + 1) m _ (by omega) (by omega) (by simp; omega), if_pos rfl]
      simp
    | false =>
      rw [cond_false, zgb hl k (i + 1) m _ (by omega) (by omega) (by omega), if_neg (by simp)]
theorem zfO {mk : List Bool} (hl : mk.length ≤ 1000) : zbg mk = some (zib mk) := by
  unfold zbg zib
  simp only [jn, zal]
  rw [show (0 : Int) = ((0 : Nat) : Int) from rfl, zgb hl mk.length 0 (mk.length + 1) [] (by omega) (by omega) (by simp), List.range_eq_range']
  rfl
theorem zr5 {r : Repo} (hr : zag r = true) {a : Nat} (ha : a < r.Commits.length) : zed r (a : Int) = some (match zaf r a with | [] => -1 | p :: _ => p) := by
  have e : (r.Commits.getD a noCommit).Parents = zaf r a := rfl
  unfold zed
  simp only [zjw ha, Option.bind_some, e]
  cases hp : zaf r a with
  | nil => rfl
  | cons p ps =>
    have hz : (((p :: ps).length : Int) == (0 : Int)) = false := by
      rw [beq_eq_false_iff_ne]
      simp only [List.length_cons]
      omega
    rw [hz, cond_false, show gi (p :: ps) 0 = some p from rfl, Option.bind_some]
theorem TB.of {t : List File} (hf : Bk.fit t) (h : Bk.bulk t ≤ 1048576) : TB t := ⟨zcr h, fun f hm => by
  have h1 : Bk.bulk f ≤ 1048576 := zhG h hm
  have h2 : Bk.bulk f = f.Path.length + Bk.bulk f.Text := rfl
  exact ⟨by omega, zcr (show Bk.bulk f.Text ≤ 1048576 by omega), (hf.2 f hm).2⟩⟩
theorem RpB.of {r : Repo} (hf : Bk.fit r) (h : Bk.bulk r ≤ 1048576) : RpB r := by
  have h0 : Bk.bulk r = Bk.bulk r.Commits + Bk.bulk r.Heads := rfl
  have hc : Bk.bulk r.Commits ≤ 1048576 := by omega
  have hh : Bk.bulk r.Heads ≤ 1048576 := by omega
  refine ⟨zcr hc, fun c hm => ?_, zcr hh, fun x hm => ?_⟩
  · have h1 : Bk.bulk c ≤ 1048576 := zhG hc hm
    have h2 : Bk.bulk c = Bk.bulk c.Parents + (c.Who.length + Bk.bulk c.Tree) := rfl
    exact ⟨zcr (show Bk.bulk c.Parents ≤ 1048576 by omega), by omega, TB.of (hf.1.2 c hm).2.2 (by omega)⟩
  · have h1 : Bk.bulk x ≤ 1048576 := zhG hh hm
    have h2 : Bk.bulk x = x.Name.length + 0 := rfl
    omega
theorem ziu {r : Repo} (h : RpB r) : zbc r = some r := by
  have hm := zan h.coms
  have hl := h.coms
  unfold zbc
  simp only [jn, zal, apN h.heads, Option.bind_some]
  rw [zdy (xs := r.Commits) (p := fun _ => true) (g := fun f : Commit => f) (Z := fun acc => some (Repo.mk acc r.Heads)) (f := fun m acc i => zdC r _ m i acc r.Heads) (fun m i x acc hx ha => by
    have hi := zas hx
    have hc := h.cat hx
    simp only [zdC, zak hx, zad hx, cond_true, Option.bind_some, zab hi hm, apN hc.par, ziq hc.tree, ap1 (show acc.length ≤ 1048576 by omega)]) (fun m acc => by simp only [zdC, zac, cond_false]) (by omega)]
  rw [show ((r.Commits.filter fun _ => true).map fun f : Commit => f) = r.Commits by simp]
theorem zlY (n : Str) (a : Int) : ∀ (A B : List Head), (∀ h ∈ A, h.Name < n) → (∀ h ∈ B, n < h.Name) → zeI n a false (A ++ B) = A ++ [⟨n, a⟩] ++ B
  | [], [], _, _ => rfl
  | [], h :: B, _, hB => by
    have h1 := hB h (by simp)
    have h2 : Op.bytesLess h.Name n = false := by
      rw [za2, decide_eq_false_iff_not]
      exact fun e => zao _ (za8 e h1)
    have h3 : (h.Name != n) = true := by
      rw [bne_iff_ne]
      exact fun e => by rw [e] at h1; exact zao _ h1
    show zeI n a false (h :: B) = _
    unfold zeI
    rw [h2, h3, Bool.not_false, Bool.and_true, Bool.false_or, cond_true, cond_true, zja n a B fun x hx e => by
      have := hB x (by simp [hx])
      rw [e] at this
      exact zao _ this]
    rfl
  | h :: A, B, hA, hB => by
    have h1 := hA h (by simp)
    have h2 : Op.bytesLess h.Name n = true := by rw [za2]; simpa using h1
    have h3 : (h.Name != n) = true := by
      rw [bne_iff_ne]
      exact fun e => by rw [e] at h1; exact zao _ h1
    show zeI n a false (h :: (A ++ B)) = _
    unfold zeI
    rw [h2, h3, Bool.not_true, Bool.and_false, Bool.or_false, cond_false, cond_true, zlY n a A B (fun x hx => hA x (by simp [hx])) hB]
    rfl
def zk2 (n : Str) (hs : List Head) : Nat → Nat
  | 0 => 0
  | k + 1 => bif Op.bytesLess n (hs.getD k zeB).Name then zk2 n hs k else k + 1
theorem zrK {hs : List Head} (hl : hs.length ≤ 1048576) {x : Head} {K : Int → Option (List Head)} : ∀ (k m : Nat), k ≤ hs.length → k < m → zd0 hs x K m (k : Int) = K (zk2 x.Name hs k : Int)
  | k, 0, _, hm => by omega
  | 0, m + 1, _, _ => rfl
  | k + 1, m + 1, hk, hm => by
    have hx : hs[k]? = some hs[k] := List.getElem?_eq_getElem (by omega)
    have hw : w64 (((k + 1 : Nat) : Int) - 1) = (k : Int) := by rw [zai (by omega) (by omega)]; omega
    simp only [zd0, jn, hw, zad hx, Option.bind_some, zg4, Bool.not_not]
    rw [decide_eq_true (by omega), cond_true]
    unfold zk2
    rw [zbX hx]
    cases Op.bytesLess x.Name hs[k].Name with
    | true => rw [cond_true, cond_true, zrK hl k m (by omega) (by omega)]
    | false => rfl
theorem zlZ {n : Str} {hs : List Head} (hp : hs.Pairwise (fun x y => x.Name < y.Name)) (hno : ∀ h ∈ hs, h.Name ≠ n) : ∀ k, k ≤ hs.length → zk2 n hs k ≤ k ∧ (∀ h ∈ hs.take (zk2 n hs k), h.Name < n) ∧ ∀ i h, zk2 n hs k ≤ i → i < k → hs[i]? = some h → n < h.Name
  | 0, _ => ⟨Nat.le_refl _, fun h hh => by simp [zk2] at hh, fun i h _ hi _ => by omega⟩
  | k + 1, hk => by
    have hx : hs[k]? = some hs[k] := List.getElem?_eq_getElem (by omega)
    unfold zk2
    rw [zbX hx]
    cases hb : Op.bytesLess n hs[k].Name with
    | true =>
      rw [cond_true]
      obtain ⟨h1, h2, h3⟩ := zlZ hp hno k (by omega)
      refine ⟨by omega, h2, fun i h hi hik hh => ?_⟩
      rcases Nat.lt_or_ge i k with h4 | h4
      · exact h3 i h hi h4 hh
      · obtain rfl : i = k := by omega
        rw [hx] at hh
        cases hh
        rw [za2] at hb
        simpa using hb
    | false =>
      rw [cond_false]
      have hlast : hs[k].Name < n := by
        rw [za2] at hb
        exact zbv (zhI.1 (by simpa using hb)) (hno _ (List.getElem_mem _))
      refine ⟨Nat.le_refl _, fun h hh => ?_, fun i h h1 h2 _ => by omega⟩
      obtain ⟨i, hi⟩ := List.getElem?_of_mem hh
      rw [List.getElem?_take] at hi
      split at hi
      · rename_i hik
        obtain ⟨hlt, rfl⟩ := List.getElem?_eq_some_iff.1 hi
        rcases Nat.lt_or_ge i k with h4 | h4
        · exact za8 (List.pairwise_iff_getElem.1 hp i k hlt (by omega) h4) hlast
        · obtain rfl : i = k := by omega
          exact hlast
      · cases hi
theorem zmJ {hs : List Head} (hl : hs.length ≤ 1048576) {n : Str} {a : Int} (hp : hs.Pairwise (fun x y => x.Name < y.Name)) (hno : ∀ h ∈ hs, h.Name ≠ n) : zfz hs ⟨n, a⟩ = some (zeI n a false hs) := by
  obtain ⟨h1, h2, h3⟩ := zlZ hp hno hs.length (Nat.le_refl _)
  unfold zfz
  simp only [jn]
  rw [zrK hl hs.length (hs.length + 1) (Nat.le_refl _) (by omega), apN hl, Option.bind_some]
  show (zbp hs (zk2 n hs hs.length : Int) ⟨n, a⟩).bind _ = _
  unfold zbp
  rw [if_pos ⟨by omega, by omega, by unfold lim; omega⟩, Option.bind_some, Int.toNat_natCast]
  have := zlY n a (hs.take (zk2 n hs hs.length)) (hs.drop (zk2 n hs hs.length)) h2 (fun h hh => by
    obtain ⟨i, hi⟩ := List.getElem?_of_mem hh
    rw [List.getElem?_drop] at hi
    exact h3 _ h (by omega) (List.getElem?_eq_some_iff.1 hi).1 hi)
  rw [List.take_append_drop] at this
  rw [this]
theorem zq2 {r : Repo} (h : RpB r) {n : Str} {a : Int} (hp : r.Heads.Pairwise (fun x y => x.Name < y.Name)) (hno : ∀ x ∈ r.Heads, x.Name ≠ n) : zbx r n a = some (headR r n a) := by
  have hm := zan h.heads
  unfold zbx
  simp only [jn, zal]
  rw [zcK (p := fun _ : Head => false) (xs := r.Heads) (r := fun _ => none) (Z := some (headR r n a)) (f := fun m k => zbq r n a _ m k [] [] r.Heads) (fun m i x hx => by
    have : (x.Name == n) = false := beq_false_of_ne (hno x (List.mem_of_getElem? hx))
    simp only [zbq, zak hx, zad hx, cond_true, cond_false, Option.bind_some, zab (zas hx) hm, this]) (fun m => by
    simp only [zbq, zac, cond_false, zmJ h.heads hp hno, Option.bind_some]
    rfl) (by omega)]
  rw [show r.Heads.find? (fun _ => false) = none by simp]
theorem zq3 {r y : Repo} (h : RpB r) (hy : RpB y) : zb6 r y = some (bif zag y then (y, true) else (r, false)) := by
  unfold zb6
  rw [show (⟨y.Commits, y.Heads⟩ : Repo) = y from rfl, zio hy, Option.bind_some]
  cases zag y with
  | true => rfl
  | false => rw [Bool.not_false, cond_true, cond_false, ziu h]; rfl
theorem znD {n : Str} {a : Int} : ∀ (hs : List Head) (j : Nat) (x : Head), hs.Pairwise (fun x y => x.Name < y.Name) → hs[j]? = some x → x.Name = n → hs.set j ⟨x.Name, a⟩ = hs.map (ze7 n a)
  | [], j, x, _, h, _ => by simp at h
  | h :: hs, 0, x, hp, e, hn => by
    obtain rfl : h = x := by simpa using e
    rw [List.set_cons_zero, List.map_cons]
    have ht : hs.map (ze7 n a) = hs := by
      conv => rhs; rw [← List.map_id hs]
      refine List.map_congr_left (fun y hy => ?_)
      have h1 := (List.pairwise_cons.1 hp).1 y hy
      unfold ze7
      rw [beq_false_of_ne (fun e2 => by rw [hn, e2] at h1; exact zao _ h1)]
      rfl
    rw [ht]
    unfold ze7
    rw [hn, beq_self_eq_true]
    rfl
  | h :: hs, j + 1, x, hp, e, hn => by
    rw [List.getElem?_cons_succ] at e
    have h1 := (List.pairwise_cons.1 hp).1 x (List.mem_of_getElem? e)
    rw [List.set_cons_succ, List.map_cons, znD hs j x (List.pairwise_cons.1 hp).2 e hn]
    congr 1
    unfold ze7
    rw [beq_false_of_ne (fun e2 => by rw [hn, e2] at h1; exact zao _ h1)]
    rfl
theorem znY {r : Repo} (h : RpB r) {n : Str} {a : Int} {K : Int → List Commit → List Head → List Head → Option Repo} (hp : r.Heads.Pairwise (fun x y => x.Name < y.Name)) (he : ∃ x ∈ r.Heads, x.Name = n) : ∀ (k i m : Nat), i + k = r.Heads.length → k < m → (∀ j x, j < i → r.Heads[j]? = some x → x.Name ≠ n) →
    zbq r n a K m (i : Int) [] [] r.Heads = some ⟨r.Commits, r.Heads.map (ze7 n a)⟩
  | k, i, 0, _, hm, _ => by omega
  | 0, i, m + 1, hi, _, hno => by
    obtain ⟨x, hx, e⟩ := he
    obtain ⟨j, hj⟩ := List.getElem?_of_mem hx
    exact absurd e (hno j x (by have := zas hj; omega) hj)
  | k + 1, i, m + 1, hi, hm, hno => by
    have hlt : i < r.Heads.length := by omega
    have hx : r.Heads[i]? = some r.Heads[i] := List.getElem?_eq_getElem hlt
    simp only [zbq, zak hx, zad hx, cond_true, Option.bind_some, zab hlt (zan h.heads), zbD hlt]
    cases hb : r.Heads[i].Name == n with
    | true => rw [cond_true, znD r.Heads i _ hp hx (by simpa using hb)]
    | false =>
      rw [cond_false]
      exact znY h hp he k (i + 1) m (by omega) (by omega) fun j x hj hjx => by
        rcases Nat.lt_or_ge j i with h1 | h1
        · exact hno j x h1 hjx
        · obtain rfl : j = i := by omega
          rw [hx] at hjx
          cases hjx
          exact fun e => by simp [e] at hb
theorem zmK {r : Repo} (h : RpB r) (hp : r.Heads.Pairwise (fun x y => x.Name < y.Name)) (n : Str) (a : Int) : zbx r n a = some (headR r n a) := by
  by_cases he : ∃ x ∈ r.Heads, x.Name = n
  · unfold headR
    rw [zhE n a r.Heads hp he]
    unfold zbx
    simp only [jn, zal]
    exact znY h hp he r.Heads.length 0 (r.Heads.length + 1) (by omega) (by omega) (fun j x hj => by omega)
  · exact zq2 h hp fun x hx e => he ⟨x, hx, e⟩
theorem zjF {n : Nat} {hs : List Head} : zde n hs = true ↔ (∀ h ∈ hs, zaC h.Name = true ∧ upB n h.At = true) ∧ hs.Pairwise (fun x y => x.Name < y.Name) ∧ hs.length ≤ 5 := by
  unfold zde
  rw [Bool.and_eq_true, decide_eq_true_eq, zaJ]
  constructor
  · rintro ⟨hg, hl⟩
    refine ⟨fun h hm => ?_, ?_, by omega⟩
    · obtain ⟨i, hi⟩ := List.getElem?_of_mem hm
      have hlt := (List.getElem?_eq_some_iff.1 hi).1
      have := hg i (by omega) (by omega)
      unfold zf8 at this
      rw [zbX hi] at this
      simp only [Bool.and_eq_true] at this
      exact ⟨this.1, this.2.1⟩
    · have step : ∀ i, (hi : i + 1 < hs.length) → (hs[i]'(by omega)).Name < hs[i + 1].Name := fun i hi => by
        have := hg (i + 1) (by omega) (by omega)
        unfold zf8 at this
        rw [zbX (List.getElem?_eq_getElem hi), decide_eq_true (by omega), Nat.add_sub_cancel, zbX (List.getElem?_eq_getElem (show i < hs.length by omega))] at this
        simp only [cond_true, Bool.and_eq_true, za2, decide_eq_true_eq] at this
        exact this.2.2
      refine List.pairwise_iff_getElem.2 fun i j hi hj hij => ?_
      induction j with
      | zero => omega
      | succ j ih =>
        rcases Nat.lt_or_ge i j with h1 | h1
        · exact za8 (ih (by omega) h1) (step j hj)
        · have : i = j := by omega
          subst this
          exact step i hj
  · rintro ⟨h1, h2, h3⟩
    refine ⟨fun i h0 hi => ?_, by omega⟩
    have hx : hs[i]? = some (hs[i]'(by omega)) := List.getElem?_eq_getElem (by omega)
    have hm := List.mem_of_getElem? hx
    unfold zf8
    rw [zbX hx, (h1 _ hm).1, (h1 _ hm).2, Bool.true_and, Bool.true_and]
    by_cases hz : 0 < (i : Int)
    · have hp : hs[i - 1]? = some (hs[i - 1]'(by omega)) := List.getElem?_eq_getElem (by omega)
      rw [decide_eq_true hz, cond_true, zbX hp, za2]
      simpa using List.pairwise_iff_getElem.1 h2 (i - 1) i (by omega) (by omega) (by omega)
    · rw [decide_eq_false hz]
      rfl
theorem zlK {r : Repo} : zag r = true ↔ (r.Commits.length ≤ 16 ∧ zm1 r.Commits = true) ∧ zde r.Commits.length r.Heads = true := by
  unfold zag
  simp only [Bool.and_eq_true, decide_eq_true_eq]
  constructor
  · rintro ⟨h1, h2, h3⟩; exact ⟨⟨by omega, h2⟩, h3⟩
  · rintro ⟨⟨h1, h2⟩, h3⟩; exact ⟨by omega, h2, h3⟩
theorem zpR {r : Repo} (hr : zag r = true) {x : Head} (hx : x ∈ r.Heads) : atB r x.Name = x.At ∧ 0 ≤ x.At ∧ x.At ≤ (r.Commits.length : Int) - 1 := by
  have hh := zjF.1 (zlK.1 hr).2
  have hu := zat.1 (hh.1 x hx).2
  refine ⟨?_, hu⟩
  unfold atB
  cases hf : r.Heads.find? (fun h => h.Name == x.Name) with
  | none => exact absurd (List.find?_eq_none.1 hf x hx) (by simp)
  | some y =>
    have hy := List.mem_of_find?_eq_some hf
    have hn : y.Name = x.Name := by simpa using List.find?_some hf
    obtain ⟨i, hi, rfl⟩ := List.getElem_of_mem hx
    obtain ⟨j, hj, rfl⟩ := List.getElem_of_mem hy
    have hp := List.pairwise_iff_getElem.1 hh.2.1
    rcases Nat.lt_trichotomy i j with h1 | h1 | h1
    · have := hp i j hi hj h1
      rw [hn] at this
      exact absurd this (zao _)
    · subst h1; rfl
    · have := hp j i hj hi h1
      rw [hn] at this
      exact absurd this (zao _)
theorem zrs (n : Str) (a : Int) : ∀ hs : List Head, (⟨n, a⟩ : Head) ∈ zeI n a false hs
  | [] => by simp [zeI]
  | h :: hs => by
    unfold zeI
    cases Op.bytesLess h.Name n with
    | true =>
      rw [Bool.not_true, Bool.and_false, Bool.or_false]
      exact List.mem_append_right _ (List.mem_append_right _ (zrs n a hs))
    | false => simp
theorem zqq {r : Repo} {n : Str} {a : Int} (h : zag (headR r n a) = true) : atB (headR r n a) n = a := (zpR h (zrs n a r.Heads)).1
theorem zjd {R α σ : Type} {xs : List α} {g : σ → α → σ} {I : σ → Prop} {f : Nat → Int → σ → Option R} {Z : σ → Option R}
    (hs : ∀ m (i : Nat) x s, xs[i]? = some x → I s → f (m + 1) (i : Int) s = f m ((i + 1 : Nat) : Int) (g s x) ∧ I (g s x)) (he : ∀ m s, I s → f (m + 1) (xs.length : Int) s = Z s) :
    ∀ (k i m : Nat) (s : σ), i + k = xs.length → k < m → I s → f m (i : Int) s = Z ((xs.drop i).foldl g s) ∧ I ((xs.drop i).foldl g s)
  | k, i, 0, s, _, hm, _ => by omega
  | 0, i, m + 1, s, hi, _, h => by
    obtain rfl : i = xs.length := by omega
    rw [List.drop_length, List.foldl_nil]
    exact ⟨he m s h, h⟩
  | k + 1, i, m + 1, s, hi, hm, h => by
    have hlt : i < xs.length := by omega
    obtain ⟨e1, e2⟩ := hs m i xs[i] s (List.getElem?_eq_getElem hlt) h
    rw [e1, List.drop_eq_getElem_cons hlt, List.foldl_cons]
    exact zjd hs he k (i + 1) m _ (by omega) (by omega) e2
theorem zgl {R α σ : Type} {xs : List α} {g : σ → α → σ} {I : σ → Prop} {f : Nat → Int → σ → Option R} {Z : σ → Option R} {s : σ} (h : I s)
    (hs : ∀ m (i : Nat) x s, xs[i]? = some x → I s → f (m + 1) (i : Int) s = f m ((i + 1 : Nat) : Int) (g s x) ∧ I (g s x)) (he : ∀ m s, I s → f (m + 1) (xs.length : Int) s = Z s) : f (xs.length + 1) 0 s = Z (xs.foldl g s) := by
  have := (zjd hs he xs.length 0 (xs.length + 1) s (by omega) (by omega) h).1
  rwa [List.drop_zero] at this
def zqz (v : Bool) (mk : List Bool) (p : Int) : List Bool := mk.set p.toNat v
theorem zlL (v : Bool) : ∀ (ps : List Int) (mk : List Bool), (ps.foldl (zqz v) mk).length = mk.length
  | [], mk => rfl
  | p :: ps, mk => by rw [List.foldl_cons, zlL v ps]; simp [zqz]
theorem zqr (v : Bool) : ∀ (ps : List Int) (mk : List Bool) (j : Nat), j < mk.length → (ps.foldl (zqz v) mk).getD j false = bif ps.any (fun p => Nat.beq p.toNat j) then v else mk.getD j false
  | [], mk, j, _ => rfl
  | p :: ps, mk, j, h => by
    rw [List.foldl_cons, zqr v ps _ j (by simp [zqz]; exact h), List.any_cons]
    have hs : (zqz v mk p).getD j false = bif Nat.beq p.toNat j then v else mk.getD j false := by
      unfold zqz
      cases hb : Nat.beq p.toNat j with
      | true =>
        have e := Nat.eq_of_beq_eq_true hb
        rw [e]
        simp [List.getD, h]
      | false =>
        have hne : p.toNat ≠ j := fun e => by rw [e, Nat.beq_refl] at hb; cases hb
        simp only [List.getD, List.getElem?_set_ne hne]
        rfl
    rw [hs]
    cases Nat.beq p.toNat j <;> cases (ps.any fun p => Nat.beq p.toNat j) <;> rfl
theorem zjB {mk : List Bool} {x : Int} : x ∈ zib mk ↔ 0 ≤ x ∧ mkd mk x.toNat := by
  unfold zib
  rw [List.mem_map]
  constructor
  · rintro ⟨i, hi, rfl⟩
    rw [List.mem_filter] at hi
    exact ⟨Int.natCast_nonneg i, hi.2⟩
  · rintro ⟨hx, h⟩
    exact ⟨x.toNat, List.mem_filter.2 ⟨List.mem_range.2 (zjP h), h⟩, Int.toNat_of_nonneg hx⟩
theorem ztn {l : List Int} {j : Nat} (h : ∀ p ∈ l, 0 ≤ p) : (l.any fun p => Nat.beq p.toNat j) = zeM l (j : Int) := by
  apply zeA
  rw [zba, List.any_eq_true]
  constructor
  · rintro ⟨p, hp, e⟩
    have := Nat.eq_of_beq_eq_true e
    rwa [← this, Int.toNat_of_nonneg (h p hp)]
  · intro hm
    exact ⟨_, hm, by rw [Int.toNat_natCast]; exact Nat.beq_refl j⟩
theorem zmL (mk : List Bool) : (zib mk).length ≤ mk.length := by
  unfold zib
  rw [List.length_map]
  exact Nat.le_trans (List.length_filter_le _ _) (by simp)
def zd7 (r : Repo) (good : List Int) (bad : Int) : List Int := (za7 r bad).filter fun x => good.all fun g => !zeM (za7 r g) x
theorem znE (r : Repo) (good : List Int) (bad : Int) : zgq (zd7 r good bad) := (zg5 r bad).sublist List.filter_sublist
theorem znF (r : Repo) (good : List Int) (bad : Int) : (zd7 r good bad).length ≤ r.Commits.length := Nat.le_trans (List.length_filter_le _ _) (zcQ r bad)
theorem zhX {r : Repo} {good : List Int} {bad x : Int} : x ∈ zd7 r good bad ↔ x ∈ za7 r bad ∧ ∀ g ∈ good, x ∉ za7 r g := by
  unfold zd7
  rw [List.mem_filter, List.all_eq_true]
  constructor
  · rintro ⟨h1, h2⟩
    refine ⟨h1, fun g hg hx => ?_⟩
    have := h2 g hg
    rw [zba.2 hx] at this
    cases this
  · rintro ⟨h1, h2⟩
    refine ⟨h1, fun g hg => ?_⟩
    cases hb : zeM (za7 r g) x with
    | false => rfl
    | true => exact absurd (zba.1 hb) (h2 g hg)
def zpS (r : Repo) (ls : List Int) (mk : List Bool) : List Bool := ls.foldl (fun mk o => (za7 r o).foldl (zqz false) mk) mk
theorem zm8 (r : Repo) : ∀ (ls : List Int) (mk : List Bool), (zpS r ls mk).length = mk.length
  | [], mk => rfl
  | o :: ls, mk => by
    have := zm8 r ls ((za7 r o).foldl (zqz false) mk)
    rw [zlL] at this
    exact this
theorem zoc (r : Repo) : ∀ (ls : List Int) (mk : List Bool) (j : Nat), j < mk.length → (zpS r ls mk).getD j false = (mk.getD j false && ls.all fun o => !zeM (za7 r o) (j : Int))
  | [], mk, j, _ => by simp [zpS]
  | o :: ls, mk, j, h => by
    have e := zoc r ls ((za7 r o).foldl (zqz false) mk) j (by rw [zlL]; exact h)
    rw [zqr false _ _ _ h, ztn (fun p hp => (zbh hp).1)] at e
    refine e.trans ?_
    rw [List.all_cons]
    cases zeM (za7 r o) (j : Int) <;> cases mk.getD j false <;> rfl
theorem zrt {r : Repo} (hr : zag r = true) {at_ : Int} (h0 : 0 ≤ at_) (h1 : at_ ≤ (r.Commits.length : Int) - 1) (ls : List Int) : zib (zpS r ls (zap r at_.toNat)) = zd7 r ls at_ := by
  refine zgq.ext (zgC _) (znE _ _ _) fun x => ?_
  rw [zjB, zhX, zb0 hr h0 h1]
  constructor
  · rintro ⟨hx, hm⟩
    have hlt := zjP hm
    rw [zm8, zaV] at hlt
    unfold mkd at hm
    rw [zoc _ _ _ _ (by rw [zaV]; exact hlt), Bool.and_eq_true, List.all_eq_true] at hm
    refine ⟨⟨hx, (zcY hr (show at_.toNat < r.Commits.length by omega) _).1 hm.1⟩, fun g hg hxg => ?_⟩
    have := hm.2 g hg
    rw [Int.toNat_of_nonneg hx, zba.2 hxg] at this
    cases this
  · rintro ⟨⟨hx, hc⟩, hg⟩
    have hm := (zcY hr (show at_.toNat < r.Commits.length by omega) _).2 hc
    have hlt := zjP hm
    refine ⟨hx, ?_⟩
    unfold mkd at hm ⊢
    rw [zoc _ _ _ _ hlt, hm, Bool.true_and, List.all_eq_true]
    intro g hgm
    rw [Int.toNat_of_nonneg hx]
    cases hb : zeM (za7 r g) x with
    | false => rfl
    | true => exact absurd (zba.1 hb) (hg g hgm)
theorem zr6 {r : Repo} (hr : zag r = true) {at_ : Int} (ha : upB r.Commits.length at_ = true) {ls : List Int} (hl : ls.length ≤ 1000) (hg : ∀ g ∈ ls, upB r.Commits.length g = true) : zhq r at_ ls = some (zd7 r ls at_) := by
  obtain ⟨a0, a1⟩ := zat.1 ha
  have hs := (zah hr).1
  unfold zhq
  rw [zci hr a0 a1, Option.bind_some]
  simp only [jn, zal]
  rw [zgl (xs := ls) (g := fun mk o => (za7 r o).foldl (zqz false) mk) (I := fun mk => mk.length = r.Commits.length) (Z := fun mk => (zbg mk).bind fun z => some z) (f := fun m i mk => zdh r ls _ m i mk) (zaV r _) (fun m i o mk ho hmk => by
    obtain ⟨o0, o1⟩ := zat.1 (hg o (List.mem_of_getElem? ho))
    refine ⟨?_, by rw [zlL]; exact hmk⟩
    simp only [zdh, jn, zak ho, zad ho, cond_true, Option.bind_some, zci hr o0 o1, zfO (show (zap r o.toNat).length ≤ 1000 by rw [zaV]; omega), zal]
    have hal := zmL (zap r o.toNat)
    rw [zaV] at hal
    rw [zgl (xs := zib (zap r o.toNat)) (g := zqz false) (I := fun mk => mk.length = r.Commits.length) (Z := fun mk => zdh r ls (fun _ y14 => (zbg y14).bind fun z63 => some z63) m (w64 ((i : Int) + 1)) mk) (f := fun m' i mk => zd1 (zib (zap r o.toNat)) _ m' i mk) hmk (fun m' i' x mk' hx hmk' => by
      have hxm := zbh (r := r) (a := o) (List.mem_of_getElem? hx)
      have hxl : x.toNat < mk'.length := by omega
      have e1 : gi mk' x = some (mk'.getD x.toNat false) := by
        have := zbM hxl
        rwa [Int.toNat_of_nonneg hxm.1] at this
      have e2 : siM mk' x false = some (zqz false mk' x) := by
        have := zbD hxl false
        rwa [Int.toNat_of_nonneg hxm.1] at this
      refine ⟨?_, by simp [zqz]; exact hmk'⟩
      simp only [zd1, zak hx, zad hx, cond_true, Option.bind_some, e1, e2, zab (zas hx) (show (zib (zap r o.toNat)).length ≤ maxi by unfold maxi; omega)]) (fun m' mk' _ => by simp only [zd1, zac, cond_false]), zab (zas ho) (show ls.length ≤ maxi by unfold maxi; omega)]
    rfl) (fun m mk _ => by simp only [zdh, zac, cond_false])]
  rw [show ls.foldl (fun mk o => (za7 r o).foldl (zqz false) mk) (zap r at_.toNat) = zpS r ls (zap r at_.toNat) from rfl, zfO (by rw [zm8, zaV]; omega), Option.bind_some, zrt hr a0 a1]
def zpp (r : Repo) (a b : Int) : List Int := bif zag r && (upB r.Commits.length a && upB r.Commits.length b) then zd7 r [a] b else []
theorem zru {r : Repo} (h : RpB r) (a b : Int) : zlp r a b = some (zpp r a b) := by
  unfold zlp zpp
  simp only [jn, zeR h, zeP, zeQ (zan h.coms), Option.bind_some]
  rw [show (decide ((0 : Int) ≤ a) && decide (a ≤ (r.Commits.length : Int) - 1)) = upB r.Commits.length a from rfl, show (decide ((0 : Int) ≤ b) && decide (b ≤ (r.Commits.length : Int) - 1)) = upB r.Commits.length b from rfl]
  cases hr : zag r with
  | false => rfl
  | true =>
    have hs := (zah hr).1
    cases ha : upB r.Commits.length a with
    | false => rfl
    | true =>
      cases hb : upB r.Commits.length b with
      | false => rfl
      | true =>
        obtain ⟨a0, a1⟩ := zat.1 ha
        obtain ⟨b0, b1⟩ := zat.1 hb
        have la := zcQ r a
        have lb := zcQ r b
        simp only [Bool.not_true, cond_false, Bool.and_true, cond_true, zfl hr a0 a1, zfl hr b0 b1, Option.bind_some, zal]
        rw [zdy (xs := za7 r b) (p := fun x => !zeM (za7 r a) x) (g := fun x : Int => x) (Z := fun acc => some acc) (f := fun m acc i => zf0 (za7 r a) (za7 r b) _ m acc i) (fun m i x acc hx ha => by
          have hi := zas hx
          simp only [zf0, jn, zak hx, zad hx, cond_true, Option.bind_some, zab hi (show (za7 r b).length ≤ maxi by unfold maxi; omega), zhC (show (za7 r a).length ≤ 1000000 by omega), ap1 (show acc.length ≤ 1048576 by omega)]
          cases zeM (za7 r a) x <;> rfl) (fun m acc => by simp only [zf0, zac, cond_false]) (by omega)]
        rw [List.map_id']
        unfold zd7
        congr 1
        refine List.filter_congr fun x _ => ?_
        simp
section
variable {r : l30Rd} {p : Int}
end
theorem zo2 {r : Repo} (h : RpB r) (hl : r.Commits.length ≤ 100000) (hp : r.Heads.Pairwise (fun x y => x.Name < y.Name)) {n who : Str} {t : List File} {ps : List Int} (ht : TB t) (hw : who.length ≤ 1048576) (hps : ps.length ≤ 1048576) :
    zbO r n who t ps = some (addR r n ⟨ps, who, t⟩) := by
  have hc : CB ⟨ps, who, t⟩ := ⟨hps, hw, ht⟩
  unfold zbO
  rw [ziq ht, Option.bind_some, ap1 h.coms, Option.bind_some]
  have e : w64 (((r.Commits ++ [Commit.mk ps who t]).length : Int) - 1) = (r.Commits.length : Int) := by rw [zai (by omega) (by simp; omega)]; simp
  rw [e, zmK (h.push hc hl) hp, Option.bind_some]
  rfl
def znM (p : Int) : Prop := -9223372036854775808 ≤ p ∧ p ≤ 9223372036854775807
section
variable {r : Repo} {has : List Int} {sent : List Commit}
end
set_option linter.unusedSectionVars false
structure SentB (sent : List Commit) : Prop where
  len : sent.length ≤ 16
  cb : ∀ c ∈ sent, CB c
  fit : ∀ c ∈ sent, ∀ p ∈ c.Parents, znM p
theorem SentB.take {sent : List Commit} (h : SentB sent) (k : Nat) : SentB (sent.take k) :=
  ⟨Nat.le_trans (List.length_take_le' k sent) h.len, fun c hc => h.cb c (List.mem_of_mem_take hc), fun c hc => h.fit c (List.mem_of_mem_take hc)⟩
theorem SentB.set {sent : List Commit} (h : SentB sent) {c : Commit} (hc : CB c) (hf : ∀ p ∈ c.Parents, znM p) (k : Nat) : SentB (sent.set k c) :=
  ⟨by rw [List.length_set]; exact h.len, fun d hd => by
    rcases List.mem_or_eq_of_mem_set hd with q | q
    · exact h.cb d q
    · rw [q]; exact hc, fun d hd => by
    rcases List.mem_or_eq_of_mem_set hd with q | q
    · exact h.fit d q
    · rw [q]; exact hf⟩
section
variable {x : Repo} (hr : zag x = true) {a b : Int} (ha : upB x.Commits.length a = true) (hb : upB x.Commits.length b = true)
include hr ha
include hb
end
theorem zm9 {t : List File} {p : Str} (h : (getT t p).2 = false) : (getT t p).1 = [] := by
  unfold getT at *
  cases hf : t.find? (fun f => f.Path == p) with
  | none => rfl
  | some f => rw [hf] at h; cases h
theorem zod {a b : List File} {p : Str} : zhj (getT a p) (getT b p) = decide (getT a p = getT b p) := by
  have ha := zm9 (t := a) (p := p)
  have hb := zm9 (t := b) (p := p)
  revert ha hb
  generalize getT a p = x
  generalize getT b p = y
  intro ha hb
  obtain ⟨x1, x2⟩ := x
  obtain ⟨y1, y2⟩ := y
  unfold zhj
  cases x2 <;> cases y2
  · have e1 : x1 = [] := ha rfl
    have e2 : y1 = [] := hb rfl
    subst e1; subst e2; simp
  · simp
  · simp
  · by_cases h : x1 = y1
    · subst h; simp
    · have e : (x1 == y1) = false := beq_false_of_ne h
      simp [e, h]
theorem zl0 (o a b : List File) : Asd (zco o a b) := zeD _ _ (zeD _ _ (zeD _ _ List.Pairwise.nil))
theorem zdP {α : Type} {f : α → Nat} {c : Nat} : ∀ {t : List α}, (∀ s ∈ t, f s ≤ c) → sumB f t ≤ c * t.length
  | [], _ => by simp [sumB]
  | x :: t, h => by
    have h1 := h x (by simp)
    have h2 := zdP (t := t) (fun s hs => h s (by simp [hs]))
    simp only [sumB, List.length_cons, Nat.mul_add, Nat.mul_one]
    omega
theorem znZ {t : List Str} (h : zav t = true) : Bk.bulk t ≤ 130 := by
  have hl := zam h
  have hs : sumB Bk.bulk t ≤ 12 * t.length := zdP fun s hs => by
    have := zil (zaS h s hs)
    show s.length ≤ 12
    omega
  show t.length + sumB Bk.bulk t ≤ 130
  omega
theorem zn0 {t : List File} (h : zaE t = true) : Bk.bulk t ≤ 1208 := by
  have hl := zaw h
  have hs : sumB Bk.bulk t ≤ 150 * t.length := zdP fun f hf => by
    have h1 := zcG (za1 h hf)
    have h2 := znZ (zaj h f hf)
    show f.Path.length + Bk.bulk f.Text ≤ 150
    omega
  show t.length + sumB Bk.bulk t ≤ 1208
  omega
theorem zoJ {r : Repo} (h : zag r = true) {c : Commit} (hc : c ∈ r.Commits) : c.Parents.length ≤ 2 ∧ (∀ p ∈ c.Parents, 0 ≤ p ∧ p ≤ 16) ∧ zaC c.Who = true ∧ zaE c.Tree = true := by
  obtain ⟨i, hi⟩ := List.mem_iff_getElem?.1 hc
  have hil := zas hi
  have s1 := (zah h).1
  have := zfT h (i := i) (by omega)
  rw [zd9 hi] at this
  unfold zlN at this
  simp only [Bool.and_eq_true, decide_eq_true_eq, List.all_eq_true] at this
  refine ⟨by omega, fun p hp => ?_, this.2.2.2.1, this.2.2.2.2⟩
  have h1 := this.1 p hp
  unfold upB at h1
  simp only [Bool.and_eq_true, decide_eq_true_eq] at h1
  omega
theorem zn1 {r : Repo} (h : zag r = true) : Bk.bulk r ≤ 20000 := by
  obtain ⟨s1, s2⟩ := zah h
  have h1 : sumB Bk.bulk r.Commits ≤ 1218 * r.Commits.length := zdP fun c hc => by
    obtain ⟨c1, _, c3, c4⟩ := zoJ h hc
    have := zbw c3
    have := zn0 c4
    have hp : sumB Bk.bulk c.Parents ≤ 0 * c.Parents.length := zdP fun p hp => Nat.le_refl 0
    show c.Parents.length + sumB Bk.bulk c.Parents + (c.Who.length + Bk.bulk c.Tree) ≤ 1218
    omega
  have h2 : sumB Bk.bulk r.Heads ≤ 6 * r.Heads.length := zdP fun x hx => by
    have := zbw (zgz h hx).2.2
    show x.Name.length + 0 ≤ 6
    omega
  show r.Commits.length + sumB Bk.bulk r.Commits + (r.Heads.length + sumB Bk.bulk r.Heads) ≤ 20000
  omega
theorem zn2 {t : List File} (h : zaE t = true) : Bk.fit t := ⟨by have := zaw h; unfold maxi; omega, fun f hf => ⟨by have := zcG (za1 h hf); show f.Path.length ≤ maxi; unfold maxi; omega, by
  have h1 := zaj h f hf
  have h2 := zam h1
  exact zbS (by omega) (zaS h1)⟩⟩
theorem zn3 {r : Repo} (h : zag r = true) : Bk.fit r := by
  obtain ⟨s1, s2⟩ := zah h
  refine ⟨⟨by unfold maxi; omega, fun c hc => ?_⟩, by unfold maxi; omega, fun x hx => ?_⟩
  · obtain ⟨c1, c2, c3, c4⟩ := zoJ h hc
    refine ⟨⟨by unfold maxi; omega, fun p hp => ?_⟩, by have := zbw c3; show c.Who.length ≤ maxi; unfold maxi; omega, zn2 c4⟩
    have := c2 p hp
    show -9223372036854775808 ≤ p ∧ p ≤ 9223372036854775807
    omega
  · obtain ⟨h1, h2, h3⟩ := zgz h hx
    refine ⟨by have := zbw h3; show x.Name.length ≤ maxi; unfold maxi; omega, ?_⟩
    show -9223372036854775808 ≤ x.At ∧ x.At ≤ 9223372036854775807
    omega
theorem zo3 (l : List Str) (o a b : List File) (h : l = o.map (·.Path) ++ a.map (·.Path) ++ b.map (·.Path)) : znp (zcH l) = zco o a b := by
  refine Asd.ext (zfM _ none (znL _) (fun q hq => by cases hq)).1 (zl0 o a b) fun x => ?_
  rw [ziQ, zjA, h, pathsF_mem]
  simp only [List.mem_append, List.mem_map]
  constructor
  · rintro ((h | h) | h)
    · exact .inl h
    · exact .inr (.inl h)
    · exact .inr (.inr h)
  · rintro (h | h | h)
    · exact .inl (.inl h)
    · exact .inl (.inr h)
    · exact .inr h
theorem zr7 {t : List File} (h : TB t) (p : Str) : zg8 t p = some (getT t p) := by
  have hm := h.maxi
  unfold zg8 getT
  simp only [jn, zal]
  rw [zcK (p := fun f : File => f.Path == p) (xs := t) (r := fun f => some (f.Text, true)) (Z := some ([], false)) (f := fun m k => zcN t p _ m [] false k) (fun m i x hx => by
    have hf := h.at_ hx
    simp only [zcN, zak hx, zad hx, cond_true, Option.bind_some, zaW hf.len, zab (zas hx) hm]) (fun m => by simp only [zcN, zac, cond_false]) (by omega)]
  cases t.find? (fun f => f.Path == p) <;> rfl
def zrL (t : List File) (p : Str) : has := ⟨(getT t p).1, (getT t p).2⟩
theorem zmM {t : List File} (h : TB t) (p : Str) : ziW t p = some (zrL t p) := by
  unfold ziW
  rw [zr7 h, Option.bind_some]
  rfl
theorem zl1 {a b : List File} {p : Str} (h : TB a) : zfE (zrL a p) (zrL b p) = some (decide (getT a p = getT b p)) := by
  have hl := (zlR h p).1
  unfold zfE zrL
  simp only [jn, zex (zan hl), Option.bind_some]
  generalize getT a p = x at *
  generalize getT b p = y at *
  obtain ⟨x1, x2⟩ := x
  obtain ⟨y1, y2⟩ := y
  by_cases h1 : x1 = y1 <;> cases x2 <;> cases y2 <;> simp [h1]
theorem zmN {o a b : List Str} (hto : zav o = true) (hta : zav a = true) (htb : zav b = true) : zfZ o a b = some (zea (zbd o a b)) := by
  have lo := zam hto
  have la := zam hta
  have lb := zam htb
  obtain ⟨hlen, hparts⟩ := zkU hto hta htb
  unfold zfZ zcb zea
  rw [zn8 (zbS (by omega) (zaS hto)) (zbS (by omega) (zaS hta)) (zbS (by omega) (zaS htb)), hto, hta, htb, Option.bind_some]
  simp only [jn, zal, Bool.and_self, Bool.not_true, cond_false, zo1 (show o.length ≤ 1000 by omega) (show a.length ≤ 1000 by omega) (show b.length ≤ 1000 by omega), Option.bind_some]
  obtain ⟨h1, h2⟩ := zkn (xs := zbd o a b) (step := zjO) (r0 := some (([] : List Str), false)) (Inv := zsO) (s0 := []) (Z := fun s => (zcn s).bind fun z30 => bif (!z30) then (some (([] : List Str), false)) else (some (s, true))) (f := fun m s i => zaI (zbd o a b) (fun _ _ y7 _ => (zcn y7).bind fun z30 => bif (!z30) then (some (([] : List Str), false)) else (some (y7, true))) m [] false s i) (fun m i p s hx hI => by
    have hi := zas hx
    obtain ⟨p1, p2, _⟩ := hparts p (List.mem_of_getElem? hx)
    refine ⟨?_, fun s' hst => zlJ p1 p2 hI hst⟩
    have hs := hI.1
    simp only [zaI, zgX, jn, zak hx, zad hx, cond_true, Option.bind_some, zab hi (show (zbd o a b).length ≤ maxi by unfold maxi; omega), apT (show s.length ≤ 1000000 by omega) (show p.Lines.length ≤ 1000000 by omega)]
    unfold zjO
    cases p.Clash <;> rfl) (fun m s hI => by simp only [zaI, zac, cond_false]) (m := (zbd o a b).length + 1) (by omega) ⟨by simp, by simp⟩
  rw [h1]
  cases hf : (zbd o a b).foldlM zjO [] with
  | none => rfl
  | some s =>
    have hI := h2 s hf
    have hs := hI.1
    show ((zcn s).bind _).bind _ = some (okT s)
    rw [zfr (zbS (by omega) hI.2), Option.bind_some]
    unfold okT
    cases zav s <;> rfl
theorem zpT (o a b : List File) (p : Str) : ((oneF o a b p).2.2 != (0 : Int)) = decide (0 < (oneF o a b p).2.2) := by
  have h : 0 ≤ (oneF o a b p).2.2 := by
    unfold oneF
    simp only [cond_eq_ite]
    repeat' split
    all_goals simp
  generalize (oneF o a b p).2.2 = k at *
  rw [Bool.eq_iff_iff]
  simp only [bne_iff_ne, decide_eq_true_eq]
  omega
section
variable {o a b : List File} (ho : TB o) (ha : TB a) (hb : TB b) (to : za4 o) (ta : za4 a) (tb : za4 b)
include ho ha hb to ta tb
theorem zpU (p : Str) : zjq (zrL o p) (zrL a p) (zrL b p) = some (⟨(oneF o a b p).1, (oneF o a b p).2.1⟩, (oneF o a b p).2.2) := by
  have no := zm9 (t := o) (p := p)
  have mt := zmN (zbj to p) (zbj ta p) (zbj tb p)
  unfold zjq oneF
  simp only [jn, zl1 ha, zl1 hb, Option.bind_some, zod]
  unfold zrL
  simp only [mt, Option.bind_some]
  cases decide (getT a p = getT o p) <;> cases decide (getT a p = getT b p) <;> cases decide (getT b p = getT o p) <;> try rfl
  cases h1 : (getT a p).2 <;> cases h2 : (getT b p).2 <;> try rfl
  cases h3 : (getT o p).2 with
  | false => rw [no h3]; rfl
  | true => cases (zea (zbd (getT o p).1 (getT a p).1 (getT b p).1)).2 <;> rfl
theorem zl2 {ps : List Str} (hp : ps.length ≤ 1000) {G : List File → List Clash → Int → Option (List File × List Clash)} : ∀ (k i m : Nat) (fs : List File) (cs : List Clash), i + k = ps.length → k < m → fs.length ≤ i → cs.length ≤ i →
    zej o a b ps G m fs cs (i : Int) = G (fs ++ (ps.drop i).filterMap (zlx o a b)) (cs ++ (ps.drop i).filterMap (zjx o a b)) (ps.length : Int)
  | k, i, 0, fs, cs, _, hm, _, _ => by omega
  | 0, i, m + 1, fs, cs, hi, _, _, _ => by
    obtain rfl : i = ps.length := by omega
    simp only [zej, zac, cond_false, List.drop_length]
    simp
  | k + 1, i, m + 1, fs, cs, hi, hm, hf, hc => by
    have hlt : i < ps.length := by omega
    have hx : ps[i]? = some ps[i] := List.getElem?_eq_getElem hlt
    have ih := fun fs cs h1 h2 => zl2 hp (G := G) k (i + 1) m fs cs (by omega) (by omega) h1 h2
    have eh : ∀ x : has, (⟨x.text, x.file⟩ : has) = x := fun _ => rfl
    simp only [zej, jn, zak hx, zad hx, cond_true, Option.bind_some, zab hlt (show ps.length ≤ maxi by unfold maxi; omega), zmM ho, zmM ha, zmM hb, eh, zpU ho ha hb to ta tb, zpT, ap1 (x := (⟨ps[i], (oneF o a b ps[i]).1⟩ : File)) (show fs.length ≤ 1048576 by omega), ap1 (x := (⟨ps[i], (oneF o a b ps[i]).2.2⟩ : Clash)) (show cs.length ≤ 1048576 by omega)]
    rw [List.drop_eq_getElem_cons hlt, List.filterMap_cons, List.filterMap_cons]
    unfold zlx zjx at ih ⊢
    cases (oneF o a b ps[i]).2.1 <;> cases decide (0 < (oneF o a b ps[i]).2.2) <;> simp only [cond_true, cond_false, Option.bind_some]
    · rw [ih _ _ (by omega) (by omega)]
    · rw [ih _ _ (by omega) (by simp; omega)]; simp
    · rw [ih _ _ (by simp; omega) (by omega)]; simp
    · rw [ih _ _ (by simp; omega) (by simp; omega)]; simp
end
theorem zk3 {t : List File} (h : TB t) {C : List Str → Int → Option (List Str)} : ∀ (k i m : Nat) (acc : List Str), i + k = t.length → k < m → acc.length ≤ 10000 + i → t.length ≤ 1000 →
    zdD t C m acc (i : Int) = C (acc ++ (t.drop i).map (·.Path)) (t.length : Int)
  | k, i, 0, acc, _, hm, _, _ => by omega
  | 0, i, m + 1, acc, hi, _, _, _ => by
    obtain rfl : i = t.length := by omega
    simp only [zdD, zac, cond_false, List.drop_length]
    simp
  | k + 1, i, m + 1, acc, hi, hm, hl, ht => by
    have hlt : i < t.length := by omega
    have hx : t[i]? = some t[i] := List.getElem?_eq_getElem hlt
    simp only [zdD, zak hx, zad hx, cond_true, Option.bind_some, ap1 (x := t[i].Path) (show acc.length ≤ 1048576 by omega), zab hlt h.maxi]
    rw [zk3 h k (i + 1) m _ (by omega) (by omega) (by simp; omega) ht, List.drop_eq_getElem_cons hlt, List.map_cons, List.append_assoc]
    rfl
theorem zoe {o a b : List File} (ho : TB o) (ha : TB a) (hb : TB b) (so : o.length ≤ 100) (sa : a.length ≤ 100) (sb : b.length ≤ 100) : zhg [o, a, b] = some (zco o a b) := by
  unfold zhg
  simp only [jn, zal]
  have step : ∀ (K : List Str → Int → Option (List Str)) (m i : Nat) (t : List File) (acc : List Str), [o, a, b][i]? = some t → TB t → t.length ≤ 100 → acc.length ≤ 1000 → zbN [o, a, b] K (m + 1) acc (i : Int) = zbN [o, a, b] K m (acc ++ t.map (·.Path)) ((i + 1 : Nat) : Int) := fun K m i t acc hx ht hl ha => by
    have hi := zas hx
    simp only [zbN, jn, zak hx, zad hx, cond_true, Option.bind_some, zal]
    have := zk3 ht (C := fun e g => zbN [o, a, b] K m e (w64 ((i : Int) + 1))) t.length 0 (t.length + 1) acc (by omega) (by omega) (by omega) (by omega)
    rw [List.drop_zero] at this
    refine this.trans ?_
    rw [zab hi (by simp [maxi])]
  have hlen : ([o, a, b] : List (List File)).length + 1 = 3 + 1 := rfl
  rw [hlen]
  refine (step _ 3 0 o [] rfl ho so (by simp)).trans ?_
  refine (step _ 2 1 a _ rfl ha sa (by simp; omega)).trans ?_
  refine (step _ 1 2 b _ rfl hb sb (by simp; omega)).trans ?_
  have he : ∀ (K : List Str → Int → Option (List Str)) (m : Nat) (acc : List Str), zbN [o, a, b] K (m + 1) acc ((2 + 1 : Nat) : Int) = K acc ((2 + 1 : Nat) : Int) := fun K m acc => rfl
  refine (he _ 0 _).trans ?_
  have e0 : [] ++ o.map (fun f : File => f.Path) ++ a.map (fun f : File => f.Path) ++ b.map (fun f : File => f.Path) = o.map (·.Path) ++ a.map (·.Path) ++ b.map (·.Path) := by simp
  rw [e0]
  have hl : (o.map (fun f : File => f.Path) ++ a.map (fun f : File => f.Path) ++ b.map (fun f : File => f.Path)).length ≤ 300 := by simp; omega
  generalize hL : o.map (fun f : File => f.Path) ++ a.map (fun f : File => f.Path) ++ b.map (fun f : File => f.Path) = L at *
  have h2 : (zcH L).length = L.length := List.length_mergeSort _
  unfold zax zbn
  rw [if_pos (by omega), Option.bind_some, if_pos (by omega), Option.bind_some, zo3 L o a b hL.symm]
section
variable {o a b : List File} (ho : TB o) (ha : TB a) (hb : TB b) (to : zaE o = true) (ta : zaE a = true) (tb : zaE b = true)
include ho ha hb to ta tb
theorem zk4 : zgi o a b = some true := by
  unfold zgi
  simp only [jn, zdF ho, zdF ha, zdF hb, to, ta, tb, Option.bind_some, cond_true]
theorem zo4 : zjr o a b = some (zdR o a b) := by
  have so := zaw to
  have sa := zaw ta
  have sb := zaw tb
  have hl := zhD o a b
  unfold zjr zdR
  rw [zk4 ho ha hb to ta tb, Option.bind_some, Bool.not_true, cond_false, zoe ho ha hb (by omega) (by omega) (by omega), Option.bind_some]
  simp only [jn, zal]
  have := zl2 ho ha hb (zaj to) (zaj ta) (zaj tb) (ps := zco o a b) (by omega) (G := fun b' c _ => bif ((c.length : Int) == (0 : Int)) then ((zc5 b').bind fun h => bif !h then ((zdo o).bind fun g => some (g, ([⟨[], 4⟩] : List Clash))) else some (b', c)) else (bif false then ((zdo o).bind fun g => some (g, ([⟨[], 4⟩] : List Clash))) else some (b', c))) (zco o a b).length 0 ((zco o a b).length + 1) [] [] (by omega) (by omega) (by simp) (by simp)
  refine this.trans ?_
  simp only [List.drop_zero, List.nil_append]
  rw [show (zco o a b).filterMap (zlx o a b) = zfV o a b from rfl, show (zco o a b).filterMap (zjx o a b) = zg1 o a b from rfl, zdF (zi9 ho ha hb (zaj to) (zaj ta) (zaj tb) (by omega) (by omega) (by omega)), ziq ho]
  simp only [Option.bind_some]
  cases (((zg1 o a b).length : Int) == 0) <;> cases zaE (zfV o a b) <;> rfl
theorem znG : zdU o a b = some (bif decide (0 < ((zdR o a b).2.length : Int)) then ([], false) else ((zdR o a b).1, true)) := by
  unfold zdU
  rw [zk4 ho ha hb to ta tb, Option.bind_some, Bool.not_true, cond_false, zo4 ho ha hb to ta tb, Option.bind_some]
  cases decide (0 < ((zdR o a b).2.length : Int)) <;> rfl
end
theorem zgq.lt {l : List Int} (h : zgq l) {i k : Nat} (hik : i < k) (hk : k < l.length) : l.getD i 0 < l.getD k 0 := by
  have h1 : i < l.length := by omega
  have := List.pairwise_iff_getElem.1 h i k h1 hk hik
  rw [zce (List.getElem?_eq_getElem h1), zce (List.getElem?_eq_getElem hk)]
  exact this
theorem zgq.inj {l : List Int} (h : zgq l) {i k : Nat} (hi : i < l.length) (hk : k < l.length) (e : l.getD i 0 = l.getD k 0) : i = k := by
  rcases Nat.lt_trichotomy i k with h1 | h1 | h1
  · have := h.lt h1 hk; omega
  · exact h1
  · have := h.lt h1 hi; omega
theorem zqJ (x : Repo) : (⟨x.Commits, x.Heads⟩ : Repo) = x := rfl
theorem zgD {r : Repo} (h : RpB r) {a : Int} (ha : upB r.Commits.length a = true) : zaN r a = some (zaB r a.toNat) := by
  obtain ⟨a0, a1⟩ := zat.1 ha
  unfold zaN
  rw [decide_eq_false (by omega), cond_false, zdc a0 a1]
  rfl
section
variable {r : Repo} (h : RpB r) (hr : zag r = true)
include h hr
theorem zkP : Gd False r := ⟨h, hr, fun e => e.elim⟩
theorem zr8 {n : Str} (hn : n.length ≤ 1048576) {c : Commit} (hc : CB c) : ((zbc r).bind fun j => (zbO ⟨j.Commits, j.Heads⟩ n c.Who c.Tree c.Parents).bind fun k => (zb6 r ⟨k.Commits, k.Heads⟩).bind fun b => bif (!b.2) then (some (Repo.mk b.1.Commits b.1.Heads, (5 : Int))) else (some (Repo.mk b.1.Commits b.1.Heads, 0))) = some (zfW r n c) := by
  obtain ⟨s1, s2⟩ := zah hr
  rw [ziu h, Option.bind_some, zqJ, zo2 h (by omega) (zit hr) hc.tree hc.who hc.par, Option.bind_some, zqJ, show (⟨c.Parents, c.Who, c.Tree⟩ : Commit) = c from rfl, zq3 h (h.addR (by omega) (by omega) hn hc), Option.bind_some]
  unfold zfW
  cases zag (addR r n c) <;> rfl
theorem zqs {o a b : List File} (to : TB o) (ta : TB a) (tb : TB b) (uo : zaE o = true) (ua : zaE a = true) (ub : zaE b = true) {ps : List Int} (hps : ps.length ≤ 2) {n who : Str} (hn : n.length ≤ 1048576) (hw : who.length ≤ 1048576) : ((zdU o a b).bind fun h => bif (!h.2) then ((zbc r).bind fun i => some (Repo.mk i.Commits i.Heads, 4)) else ((zbc r).bind fun j => (zbO ⟨j.Commits, j.Heads⟩ n who h.1 ps).bind fun k => (zb6 r ⟨k.Commits, k.Heads⟩).bind fun b => bif (!b.2) then (some (Repo.mk b.1.Commits b.1.Heads, (5 : Int))) else (some (Repo.mk b.1.Commits b.1.Heads, 0)))) = some (bif decide (0 < ((zdR o a b).2.length : Int)) then (r, 4) else zfW r n ⟨ps, who, (zdR o a b).1⟩) := by
  have so := zaw uo
  have sa := zaw ua
  have sb := zaw ub
  have hj := zly to ta tb (zaj uo) (zaj ua) (zaj ub) (by omega) (by omega) (by omega)
  rw [znG to ta tb uo ua ub, Option.bind_some]
  cases decide (0 < ((zdR o a b).2.length : Int)) with
  | true =>
    simp only [cond_true, Bool.not_false, ziu h, Option.bind_some]
  | false =>
    exact zr8 h hr hn (c := ⟨ps, who, (zdR o a b).1⟩) ⟨show ps.length ≤ 1048576 by omega, hw, hj⟩
end
def zqA (r : Repo) (n : Str) (x : Repo) : Prop := x = r ∨ x = zdb ∨ zag x = true
theorem zqA.bulk {r x : Repo} {n : Str} (h : zqA r n x) : Bk.bulk x ≤ Bk.bulk r + 20000 := by
  rcases h with h | h | h
  · rw [h]; omega
  · rw [h]; show 0 + 0 + (0 + 0) ≤ _; omega
  · have := zn1 h; omega
theorem zqA.fit {r x : Repo} {n : Str} (hf : Bk.fit r) (h : zqA r n x) : Bk.fit x := by
  rcases h with h | h | h
  · rw [h]; exact hf
  · rw [h]; exact ⟨⟨by simp [zdb, maxi], by simp [zdb]⟩, by simp [zdb, maxi], by simp [zdb]⟩
  · exact zn3 h
section
variable {r : Repo} (h : RpB r) (hr : zag r = true)
include h hr
theorem zpV {a : Int} (ha : upB r.Commits.length a = true) {Z : List File → Option (Repo × Int)} : ((zed r a).bind fun g => (zaN r g).bind Z) = Z (zd6 r a.toNat) := by
  obtain ⟨a0, a1⟩ := zat.1 ha
  obtain ⟨n, rfl⟩ := Int.eq_ofNat_of_zero_le a0
  rw [zr5 hr (by omega), Option.bind_some, Int.toNat_natCast]
  unfold zd6
  cases hp : zaf r n with
  | nil => rfl
  | cons p ps =>
    have hm := (zaY hr (i := n) (by omega)).2 p (by rw [hp]; simp)
    have hz : (((p :: ps).length : Int) == (0 : Int)) = false := by
      rw [beq_eq_false_iff_ne]
      simp only [List.length_cons]
      omega
    rw [hz, cond_false]
    show (zaN r p).bind Z = _
    rw [zgD h (zat.2 (by omega)), Option.bind_some]
    rfl
theorem zpW {n who : Str} {o b : List File} (hn : n.length ≤ 1048576) (hw : who.length ≤ 1048576) (hat : 0 ≤ atB r n) (to : TB o) (uo : zaE o = true) (tb : TB b) (ub : zaE b = true) : zcX r n who o b = some (zh4 r n who o b) := by
  have hg := zkP h hr
  have ha' : atB r n ≤ (r.Commits.length : Int) - 1 := by rcases at_range hr n with e | e <;> omega
  obtain ⟨ta, ta2, _, _⟩ := hg.tree (i := (atB r n).toNat) (by have := (zah hr).1; omega)
  unfold zcX
  rw [zm3 h, Option.bind_some, zgD h (zat.2 ⟨hat, ha'⟩), Option.bind_some]
  exact zqs h hr to ta tb uo ta2 ub (ps := [atB r n]) (by simp) hn hw
theorem zto {n who : Str} {b : Int} (hn : n.length ≤ 1048576) (hw : who.length ≤ 1048576) (t : Bool) : ze4 r n who b t = some (bif zm0 r n who b then (r, 1) else (bif t then zh4 r n who (zaB r b.toNat) (zd6 r b.toNat) else zh4 r n who (zd6 r b.toNat) (zaB r b.toNat))) := by
  have hg := zkP h hr
  unfold ze4
  simp only [jn, zm3 h, Option.bind_some, zbG (zan hw), znB h, ziu h, zqJ]
  have key : zm0 r n who b = false → ((zed r b).bind fun g => (zaN r g).bind fun d => (zaN r b).bind fun e => bif t then ((zcX r n who e d).bind fun a => some (Repo.mk a.1.Commits a.1.Heads, a.2)) else ((zcX r n who d e).bind fun a => some (Repo.mk a.1.Commits a.1.Heads, a.2))) = some (bif t then zh4 r n who (zaB r b.toNat) (zd6 r b.toNat) else zh4 r n who (zd6 r b.toNat) (zaB r b.toNat)) := fun hbad => by
    obtain ⟨p1, p2, p3⟩ := zmG hbad
    have ub := zat.2 ⟨p2, p3⟩
    obtain ⟨_, q2, q3⟩ := zjl hg p2 p3
    obtain ⟨tb, tb2, _, _⟩ := hg.tree (i := b.toNat) (by have := (zah hr).1; omega)
    rw [zpV h hr ub (Z := fun d => (zaN r b).bind fun e => bif t then ((zcX r n who e d).bind fun a => some (Repo.mk a.1.Commits a.1.Heads, a.2)) else ((zcX r n who d e).bind fun a => some (Repo.mk a.1.Commits a.1.Heads, a.2))), zgD h ub, Option.bind_some]
    cases t with
    | true => rw [cond_true, cond_true, zpW h hr hn hw p1 tb tb2 q2 q3, Option.bind_some]
    | false => rw [cond_false, cond_false, zpW h hr hn hw p1 q2 q3 tb tb2, Option.bind_some]
  unfold zm0 at key ⊢
  cases h1 : decide (atB r n < 0) with
  | true => rfl
  | false =>
    cases h2 : zaC who with
    | false => rfl
    | true =>
      cases h3 : upB r.Commits.length b with
      | false => rfl
      | true => exact key (by rw [h1, h2, h3]; rfl)
end
def zrv (r : Repo) (i : Nat) : Str := (r.Commits.getD i noCommit).Who
def zgc (r x : Repo) (n : Str) (i : Nat) : Repo × Int := zh4 x n (zrv r i) (zd6 x i) (zaB x i)
def zpq (r : Repo) (n : Str) : List Int → Repo → Repo × Int
  | [], x => (x, 0)
  | i :: l, x => bif decide (1 < ((zaf r i.toNat).length : Int)) then zpq r n l x else (bif (zgc r x n i.toNat).2 != 0 then (r, (zgc r x n i.toNat).2) else zpq r n l (zgc r x n i.toNat).1)
def zna (r : Repo) (n : Str) (a : Int) : Repo × Int := bif zag r then (bif decide (atB r n < 0) || !upB r.Commits.length a then (r, 1) else zpq r n (zd7 r [a] (atB r n)) (headR r n a)) else (zdb, 1)
structure On (r : Repo) (n : Str) (x : Repo) : Prop where
  gd : Gd False x
  more : ∃ e, x.Commits = r.Commits ++ e
  at_ : 0 ≤ atB x n
theorem zq4 {r x : Repo} {n : Str} (h : On r n x) : r.Commits.length ≤ x.Commits.length := by
  obtain ⟨e, he⟩ := h.more
  rw [he, List.length_append]
  omega
theorem zpr {r : Repo} {n : Str} {a : Int} (h : RpB r) (hr : zag r = true) (hn : n.length ≤ 1048576) (ha : 0 ≤ atB r n) (hu : upB r.Commits.length a = true) : On r n (headR r n a) := by
  obtain ⟨u0, u1⟩ := zat.1 hu
  have ho := zoI hr ha u0 u1
  exact ⟨(zkP h hr).head hn ho, ⟨[], (List.append_nil _).symm⟩, by rw [zqq ho]; exact u0⟩
theorem zwb {r : Repo} (hr : zag r = true) {i : Nat} (hi : i < r.Commits.length) : zaC (zrv r i) = true := by
  have := zfT hr hi
  unfold zlN at this
  simp only [Bool.and_eq_true] at this
  exact this.2.2.2.1
theorem zr9 {x : Repo} {n who : Str} {o b : List File} (h : (zh4 x n who o b).2 = 0) : ∃ c, (zh4 x n who o b).1 = addR x n c ∧ zag (addR x n c) = true := by
  unfold zh4 zfW at *
  simp only at *
  revert h
  cases decide (0 < ((zdR o (zaB x (atB x n).toNat) b).2.length : Int)) with
  | true => intro h; cases h
  | false =>
    simp only [cond_false]
    cases ho : zag (addR x n ⟨[atB x n], who, (zdR o (zaB x (atB x n).toNat) b).1⟩) with
    | false => intro h; cases h
    | true => intro _; exact ⟨_, rfl, ho⟩
section
variable {r x : Repo} {n : Str} (hr : zag r = true) (hn : n.length ≤ 1048576) (h : On r n x) {i : Nat} (hi : i < r.Commits.length)
include hr hn h hi
theorem zsa : (zrv r i).length ≤ 1048576 ∧ (i : Int) ≤ (x.Commits.length : Int) - 1 ∧ zm0 x n (zrv r i) (i : Int) = false := by
  have hl := zq4 h
  have hw := zwb hr hi
  have := zbw hw
  refine ⟨by omega, by omega, ?_⟩
  unfold zm0
  rw [decide_eq_false (by have := h.at_; omega), hw, zat.2 ⟨by omega, by omega⟩]
  rfl
theorem ztp : ze4 x n (zrv r i) (i : Int) false = some (zgc r x n i) := by
  obtain ⟨b1, b2, b3⟩ := zsa hr hn h hi
  rw [zto h.gd.rb h.gd.ok hn b1, b3]
  rfl
theorem zq5 : ((zcM x (i : Int)).bind fun z => zdZ x n (zrv r i) z (zaB x i)) = some (zgc r x n i) ∧ Gd False (zgc r x n i).1 := by
  obtain ⟨b1, b2, b3⟩ := zsa hr hn h hi
  have hl := zq4 h
  obtain ⟨e1, e2, e3⟩ := zjl h.gd (a := (i : Int)) (by omega) b2
  obtain ⟨t1, t2, _, _⟩ := h.gd.tree (i := i) (by omega)
  rw [Int.toNat_natCast] at e1 e2 e3
  rw [e1, Option.bind_some]
  exact znC h.gd hn b1 h.at_ e2 e3 t1 t2
theorem zqK (he : (zgc r x n i).2 = 0) : On r n (zgc r x n i).1 := by
  obtain ⟨_, hg⟩ := zq5 hr hn h hi
  obtain ⟨c, e1, e2⟩ := zr9 he
  have e1' : (zgc r x n i).1 = addR x n c := e1
  obtain ⟨e, hm⟩ := h.more
  refine ⟨hg, ⟨e ++ [c], ?_⟩, ?_⟩
  · rw [e1', ← List.append_assoc, ← hm]
    rfl
  · rw [e1', show addR x n c = headR ⟨x.Commits ++ [c], x.Heads⟩ n (x.Commits.length : Int) from rfl, zqq (r := ⟨x.Commits ++ [c], x.Heads⟩) e2]
    omega
end
theorem zo5 {r : Repo} {n : Str} (hr : zag r = true) (hn : n.length ≤ 1048576) : ∀ (l : List Int) (x : Repo), (∀ i ∈ l, upB r.Commits.length i = true) → On r n x → zqA r n (zpq r n l x).1
  | [], x, _, h => .inr (.inr h.gd.ok)
  | i :: l, x, hl, h => by
    obtain ⟨u0, u1⟩ := zat.1 (hl i (by simp))
    have hi : i.toNat < r.Commits.length := by omega
    have ih := fun x h => zo5 (n := n) hr hn l x (fun j hj => hl j (List.mem_cons_of_mem _ hj)) h
    unfold zpq
    cases decide (1 < ((zaf r i.toNat).length : Int)) with
    | true => exact ih x h
    | false =>
      rw [cond_false]
      cases he : (zgc r x n i.toNat).2 != 0 with
      | true => exact .inl rfl
      | false => exact ih _ (zqK hr hn h hi (by simpa using he))
def ChH : Int → List Hunk → Prop
  | _, [] => True
  | lo, d :: l => lo ≤ d.At ∧ ChH (d.At + d.Less.length + 1) l
theorem ChH.mono : ∀ {l : List Hunk} {lo lo' : Int}, lo' ≤ lo → ChH lo l → ChH lo' l
  | [], _, _, _, _ => trivial
  | d :: l, _, _, h, ⟨h1, h2⟩ => ⟨Int.le_trans h h1, h2⟩
section
variable {r : Repo} {n : Str} (hr : zag r = true) (h : RpB r) (hn : n.length ≤ 1048576) {l : List Int} (hl : ∀ i ∈ l, upB r.Commits.length i = true) (hlen : l.length ≤ 1000)
include hr h hn hl hlen
theorem zo6 : ∀ (k i m : Nat) (x : Repo) (f : Int) (g : List Commit) (e : List Head), i + k = l.length → k < m → On r n x →
    ze3 r n l (fun _ _ _ _ c d => some (Repo.mk c d, (0 : Int))) m f (i : Int) g e x.Commits x.Heads = some (zpq r n (l.drop i) x)
  | k, i, 0, _, _, _, _, _, hm, _ => by omega
  | 0, i, m + 1, x, f, g, e, hi, _, ho => by
    obtain rfl : i = l.length := by omega
    simp only [ze3, zac, cond_false, List.drop_length]
    rfl
  | k + 1, i, m + 1, x, f, g, e, hi, hm, ho => by
    have hlt : i < l.length := by omega
    have hx : l[i]? = some l[i] := List.getElem?_eq_getElem hlt
    obtain ⟨u0, u1⟩ := zat.1 (hl l[i] (List.getElem_mem hlt))
    have ih := fun x f g e ho => zo6 k (i + 1) m x f g e (by omega) (by omega) ho
    have hol := zq4 ho
    rw [List.drop_eq_getElem_cons hlt]
    generalize l[i] = z at *
    obtain ⟨c, rfl⟩ := Int.eq_ofNat_of_zero_le u0
    have hc : c < r.Commits.length := by omega
    simp only [ze3, jn, zak hx, zad hx, cond_true, Option.bind_some, zab hlt (show l.length ≤ maxi by unfold maxi; omega), zdc (r := r) u0 u1, zdc (r := x) u0 (show (c : Int) ≤ (x.Commits.length : Int) - 1 by omega), Int.toNat_natCast]
    obtain ⟨q1, q2⟩ := zq5 hr hn ho hc
    unfold zpq
    rw [Int.toNat_natCast]
    show (bif decide (1 < ((zaf r c).length : Int)) then _ else _) = _
    cases decide (1 < ((zaf r c).length : Int)) with
    | true => simp only [cond_true]; exact ih x f g e ho
    | false =>
      simp only [cond_false]
      have key : ∀ E : Repo × Int → Option (Repo × Int), ((zcM ⟨x.Commits, x.Heads⟩ (c : Int)).bind fun u => (zdZ ⟨x.Commits, x.Heads⟩ n (r.Commits.getD c noCommit).Who u (x.Commits.getD c noCommit).Tree).bind E) = E (zgc r x n c) := fun E => by
        rw [← Option.bind_assoc]
        exact (congrArg (fun o => Option.bind o E) q1).trans rfl
      rw [key]
      cases he : (zgc r x n c).2 != 0 with
      | true => simp only [cond_true, zft h, Option.bind_some]
      | false => simp only [cond_false]; exact ih _ f g e (zqK hr hn ho hc (by simpa using he))
theorem zo7 : ∀ (k i m : Nat) (x : Repo) (f : Int) (g : List Commit) (e : List Head), i + k = l.length → k < m → On r n x →
    ze5 r n l (fun _ _ _ _ c d => some (Repo.mk c d, (0 : Int))) m f (i : Int) g e x.Commits x.Heads = some (zpq r n (l.drop i) x)
  | k, i, 0, _, _, _, _, _, hm, _ => by omega
  | 0, i, m + 1, x, f, g, e, hi, _, ho => by
    obtain rfl : i = l.length := by omega
    simp only [ze5, zac, cond_false, List.drop_length]
    rfl
  | k + 1, i, m + 1, x, f, g, e, hi, hm, ho => by
    have hlt : i < l.length := by omega
    have hx : l[i]? = some l[i] := List.getElem?_eq_getElem hlt
    obtain ⟨u0, u1⟩ := zat.1 (hl l[i] (List.getElem_mem hlt))
    have ih := fun x f g e ho => zo7 k (i + 1) m x f g e (by omega) (by omega) ho
    have hol := zq4 ho
    rw [List.drop_eq_getElem_cons hlt]
    generalize l[i] = z at *
    obtain ⟨c, rfl⟩ := Int.eq_ofNat_of_zero_le u0
    have hc : c < r.Commits.length := by omega
    simp only [ze5, jn, zak hx, zad hx, cond_true, Option.bind_some, zab hlt (show l.length ≤ maxi by unfold maxi; omega), zdc (r := r) u0 u1, Int.toNat_natCast]
    unfold zpq
    rw [Int.toNat_natCast]
    show (bif decide (1 < ((zaf r c).length : Int)) then _ else _) = _
    cases decide (1 < ((zaf r c).length : Int)) with
    | true => simp only [cond_true]; exact ih x f g e ho
    | false =>
      simp only [cond_false]
      have q1 : ze4 ⟨x.Commits, x.Heads⟩ n (r.Commits.getD c noCommit).Who (c : Int) false = some (zgc r x n c) := ztp hr hn ho hc
      rw [q1, Option.bind_some]
      cases he : (zgc r x n c).2 != 0 with
      | true => simp only [cond_true, ziu h, Option.bind_some]
      | false => simp only [cond_false]; exact ih _ f g e (zqK hr hn ho hc (by simpa using he))
end
theorem zqL {r : Repo} {a b : Int} : ∀ i ∈ zd7 r [a] b, upB r.Commits.length i = true := fun i hi => zat.2 (zbh (zhX.1 hi).1)
theorem zpX {r : Repo} (h : RpB r) {n : Str} {a : Int} (hn : n.length ≤ 1048576) : zjk r n a = some (zna r n a) := by
  unfold zjk zna
  rw [zeR h, Option.bind_some]
  cases hr : zag r with
  | false => rfl
  | true =>
    have hs := (zah hr).1
    have hh := (zah hr).2
    rw [Bool.not_true, cond_false, cond_true]
    simp only [jn, zeJ h, Option.bind_some, zeP, zeQ (zan h.coms), zft h, zru h, zqJ]
    rw [show (decide ((0 : Int) ≤ a) && decide (a ≤ (r.Commits.length : Int) - 1)) = upB r.Commits.length a from rfl]
    cases h1 : decide (atB r n < 0) with
    | true => rfl
    | false =>
      cases h2 : upB r.Commits.length a with
      | false => rfl
      | true =>
        have p1 : 0 ≤ atB r n := by simpa using h1
        have ha' : atB r n ≤ (r.Commits.length : Int) - 1 := by rcases at_range hr n with e | e <;> omega
        have e1 : zpp r a (atB r n) = zd7 r [a] (atB r n) := by
          unfold zpp
          rw [hr, h2, zat.2 ⟨p1, ha'⟩]
          rfl
        have hll := znF r [a] (atB r n)
        simp only [Bool.not_true, cond_false, Bool.or_self, e1, zal]
        rw [zi6 h (by omega), Option.bind_some]
        have := zo6 hr h hn (l := zd7 r [a] (atB r n)) zqL (by omega) (zd7 r [a] (atB r n)).length 0 ((zd7 r [a] (atB r n)).length + 1) (headR r n a) 0 [] [] (by omega) (by omega) (zpr h hr hn p1 h2)
        rw [List.drop_zero] at this
        exact this
theorem zpY {r : Repo} (h : RpB r) {n : Str} {a : Int} (hn : n.length ≤ 1048576) : zh8 r n a = some (zna r n a) := by
  unfold zh8 zna
  rw [zio h, Option.bind_some]
  cases hr : zag r with
  | false => rfl
  | true =>
    have hs := (zah hr).1
    rw [Bool.not_true, cond_false, cond_true]
    simp only [jn, zm3 h, Option.bind_some, znB h, ziu h, zqJ]
    cases h1 : decide (atB r n < 0) with
    | true => rfl
    | false =>
      cases h2 : upB r.Commits.length a with
      | false => rfl
      | true =>
        have p1 : 0 ≤ atB r n := by simpa using h1
        have ha' : atB r n ≤ (r.Commits.length : Int) - 1 := by rcases at_range hr n with e | e <;> omega
        have hll := znF r [a] (atB r n)
        simp only [Bool.not_true, cond_false, Bool.or_self, zal]
        rw [zmK h (zit hr), Option.bind_some, zr6 hr (zat.2 ⟨p1, ha'⟩) (by simp) (fun g hg => by rw [List.mem_singleton.1 hg]; exact h2), Option.bind_some]
        have := zo7 hr h hn (l := zd7 r [a] (atB r n)) zqL (by omega) (zd7 r [a] (atB r n)).length 0 ((zd7 r [a] (atB r n)).length + 1) (headR r n a) 0 [] [] (by omega) (by omega) (zpr h hr hn p1 h2)
        rw [List.drop_zero] at this
        exact this
theorem zrw {r : Repo} (h : RpB r) {n : Str} {a : Int} (hn : n.length ≤ 1048576) : zqA r n (zna r n a).1 := by
  unfold zna
  cases hr : zag r with
  | false => exact .inr (.inl rfl)
  | true =>
    rw [cond_true]
    cases h1 : decide (atB r n < 0) with
    | true => exact .inl rfl
    | false =>
      cases h2 : upB r.Commits.length a with
      | false => exact .inl rfl
      | true => exact zo5 hr hn _ _ zqL (zpr h hr hn (by simpa using h1) h2)
theorem zoK {repo : Repo} {name : Str} {b : Int} (h : Bk.fit repo) (hw : Bk.fit name) (hb' : Bk.fit b) : zfk repo name b = some true := by
  unfold zfk
  by_cases hc : (1048576 : Int) < (name.length : Int)
  · rw [decide_eq_true hc]; rfl
  rw [decide_eq_false hc, cond_false, zrI h (by omega) (by omega), Option.bind_some]
  by_cases hb : (Bk.bulk repo : Int) ≤ 1048576
  case neg => rw [if_neg hb]; rfl
  rw [if_pos hb, decide_eq_false (by omega), cond_false]
  have b1 : Bk.bulk repo ≤ 1048576 := by omega
  have hr := RpB.of h b1
  have hn : name.length ≤ 1048576 := by omega
  have ho := zrw hr (a := b) hn
  have hf := ho.fit h
  have b2 := ho.bulk
  have c1 := zjv repo
  have c2 := zjv (zna repo name b).1
  have hg : Bk.fit (zbr.wr 1 (zna repo name b).1).2 := zpJ 1 _ (by omega) (by omega) hf
  have c3 := zbr.cnt 1 (zna repo name b).1
  have e2 := zbr.again 1 (zna repo name b).1
  have f1 : (zbr.wr 1 repo).1 = 1 + (zbr.cn repo : Int) := zbr.fst _ _
  have n1 : decide ((zbr.wr 1 repo).1 < 0) = false := decide_eq_false (by rw [f1]; omega)
  have n2 : decide ((zbr.wr 1 (zna repo name b).1).1 < 0) = false := decide_eq_false (by rw [zbr.fst]; omega)
  simp only [zrJ b1, Option.bind_some, zqJ, zpX hr hn, zpY hr hn, jn, zoZ hf, zoZ h, beq_self_eq_true, Bool.not_true, cond_false, bne_self_eq_false,
    zlM (x := repo) (k := 1) (by omega) (by omega) h, n1, zlM (x := (zna repo name b).1) (k := 1) (by omega) (by omega) hf,
    zrq (zbr.held_wr 1 (zna repo name b).1) (show (0 : Int) ≤ 1 by omega) (by omega) hg, e2, n2]
def zmO : List Str → List Str → Nat
  | a :: as, b :: bs => bif a == b then zmO as bs + 1 else 0
  | _, _ => 0
def zuC (t : List Str) : List Str → Nat → Nat × Nat → Nat × Nat
  | [], _, r => r
  | b :: bs, i, r => zuC t bs (i + 1) (bif decide (r.2 < zmO (b :: bs) t) then (i, zmO (b :: bs) t) else r)
def zpP (base t : List Str) : Nat × Nat := zuC t base 0 (0, 0)
def zqB (out : List Delta) (x : Str) : List Delta := match out.getLast? with
  | some d => bif decide (0 < d.Lines.length) then out.dropLast ++ [⟨d.From, d.Many, d.Lines ++ [x]⟩] else out ++ [⟨0, 0, [x]⟩]
  | none => out ++ [⟨0, 0, [x]⟩]
def zjG (base : List Str) : Nat → List Delta → List Str → List Delta
  | 0, out, _ => out
  | _ + 1, out, [] => out
  | n + 1, out, x :: t => bif decide (0 < (zpP base (x :: t)).2) then zjG base n (out ++ [⟨(zpP base (x :: t)).1, (zpP base (x :: t)).2, []⟩]) ((x :: t).drop (zpP base (x :: t)).2) else zjG base n (zqB out x) t
def zl3 (base t : List Str) : List Delta := zjG base t.length [] t
def OD (n : Nat) (l : List Owner) : Prop := l.length ≤ n ∧ ∀ o ∈ l, o.Path.length ≤ 10 ∧ o.Who.length ≤ 10
theorem OD.fit {n : Nat} {l : List Owner} (h : OD n l) (hn : n ≤ 1000) : Bk.fit l := ⟨by have := h.1; unfold maxi; omega, fun o ho => by
  have := h.2 o ho
  exact ⟨by show o.Path.length ≤ maxi; unfold maxi; omega, by show o.Who.length ≤ maxi; unfold maxi; omega⟩⟩
section
variable {base t : List Str} (hb : zav base = true) (ht : zav t = true)
include hb ht
end
def zsR (list : List (List Str)) (ds : List Int) (i : Nat) (t : List Str) (b dep : Int) (d : List Delta) : Prop := (b = -1 ∧ d = zl3 [] t ∧ dep = 1) ∨ ∃ k o dk, k < i ∧ b = (k : Int) ∧ list[k]? = some o ∧ ds[k]? = some dk ∧ d = zl3 o t ∧ dep = dk + 1 ∧ dk ≤ 2
theorem zsR.snoc {list : List (List Str)} {ds : List Int} {i : Nat} {t : List Str} {b dep z : Int} {d : List Delta} (h : zsR list ds i t b dep d) : zsR list (ds ++ [z]) i t b dep d := by
  rcases h with h | ⟨k, o, dk, h1, h2, h3, h4, h5⟩
  · exact .inl h
  · exact .inr ⟨k, o, dk, h1, h2, h3, by rw [List.getElem?_append_left (List.getElem?_eq_some_iff.1 h4).1]; exact h4, h5⟩
section
variable {list : List (List Str)} (h12 : list.length ≤ 12) (hl : ∀ t ∈ list, zav t = true)
include h12 hl
end
end Go.Vm
