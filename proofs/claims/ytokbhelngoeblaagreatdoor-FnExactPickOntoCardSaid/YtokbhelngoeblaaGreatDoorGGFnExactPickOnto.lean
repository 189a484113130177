/- Plain law FnExactPickOnto, and what it uses: what the models answer. Conditions: each law's own premises. -/
import Derived.Test.YtokbhelngoeblaaGreatDoorGM0
import Derived.Test.YtokbhelngoeblaaGreatDoorGM1
import Derived.Test.YtokbhelngoeblaaGreatDoorGLw
import Derived.Sort.Walk0
import Derived.Lib.SplitLaws
import Derived.Test.YtokbhelngoeblaaGreatDoorGX
import Derived.Lib.Join
namespace Go.Vm
open Go Go.Sx
set_option linter.unusedSimpArgs false
set_option linter.unusedVariables false
def chB (c : UInt8) : Bool := !(decide ((c.toNat : Int) < 32) || decide (126 < (c.toNat : Int)))
def zdz (s : Str) : Bool := !decide (12 < (s.length : Int)) && s.all chB
def zaB (xs : List Str) : Bool := !decide (10 < (xs.length : Int)) && xs.all zdz
theorem zlL (a b : Int) : decide (a ≤ b) = !decide (b < a) := by
  by_cases h : a ≤ b
  · rw [decide_eq_true h, decide_eq_false (by omega)]; rfl
  · rw [decide_eq_false h, decide_eq_true (by omega)]; rfl
theorem zlM {s : Str} (h : s.length ≤ maxi) : zfG s = some (zdz s) := by
  unfold zfG zdz
  simp only [jn, zak]
  cases decide ((12 : Int) < (s.length : Int))
  case true => rfl
  rw [cond_false, zbg (α := UInt8) (xs := s) (p := chB) (r0 := some false) (Z := some true) (f := fun m i => zcl s (fun _ _ => some true) m false i) (fun m i x hx => by
    simp only [zcl, jn, zal hx, ziB hx, cond_true, Option.bind_some, zac (zau hx) h, chB]
    cases decide ((x.toNat : Int) < 32) <;> cases decide (126 < (x.toNat : Int)) <;> rfl) (fun m => by simp only [zcl, zad, cond_false]) (by omega)]
  cases s.all chB <;> rfl
theorem zlN {s : Str} (h : s.length ≤ maxi) : zfF s = some (zdz s) := by
  unfold zfF zdz
  simp only [jn, zak, zlL]
  rw [zbg (α := UInt8) (xs := s) (p := chB) (r0 := some false) (Z := some (!decide (12 < (s.length : Int)))) (f := fun m i => zci s (fun _ _ => some (!decide (12 < (s.length : Int)))) m false i) (fun m i x hx => by
    simp only [zci, jn, zal hx, ziB hx, cond_true, Option.bind_some, zac (zau hx) h, chB]
    cases decide ((x.toNat : Int) < 32) <;> cases decide (126 < (x.toNat : Int)) <;> rfl) (fun m => by simp only [zci, zad, cond_false]) (by omega)]
  cases s.all chB <;> cases decide (12 < (s.length : Int)) <;> rfl
theorem zfT {xs : List Str} (h : Bk.fit xs) : zbQ xs = some (zaB xs) := by
  have hl := zb6 h
  unfold zbQ zaB
  simp only [jn, zak]
  cases decide ((10 : Int) < (xs.length : Int))
  case true => rfl
  rw [cond_false, zbg (α := Str) (xs := xs) (p := zdz) (r0 := some false) (Z := some true) (f := fun m i => zcm xs (fun _ _ => some true) m false i) (fun m i x hx => by
    have hx2 : x.length ≤ maxi := zfY h hx
    simp only [zcm, zal hx, zaf hx, cond_true, Option.bind_some, zac (zau hx) hl, zlM hx2]
    cases zdz x <;> rfl) (fun m => by simp only [zcm, zad, cond_false]) (by omega)]
  cases xs.all zdz <;> rfl
theorem ziC {xs : List Str} (h : Bk.fit xs) : zdq xs = some (zaB xs) := by
  have hl := zb6 h
  unfold zdq zaB
  simp only [jn, zak, zlL]
  rw [zbg (α := Str) (xs := xs) (p := zdz) (r0 := some false) (Z := some (!decide (10 < (xs.length : Int)))) (f := fun m i => zdp xs (fun _ _ => some (!decide (10 < (xs.length : Int)))) m false i) (fun m i x hx => by
    have hx2 : x.length ≤ maxi := zfY h hx
    simp only [zdp, zal hx, zaf hx, cond_true, Option.bind_some, zac (zau hx) hl, zlN hx2]
    cases zdz x <;> rfl) (fun m => by simp only [zdp, zad, cond_false]) (by omega)]
  cases xs.all zdz <;> cases decide (10 < (xs.length : Int)) <;> rfl
theorem zar {t : List Str} (h : zaB t = true) : t.length ≤ 10 := by
  unfold zaB at h
  simp only [Bool.and_eq_true, Bool.not_eq_true', decide_eq_false_iff_not] at h
  omega
theorem zaX {t : List Str} (h : zaB t = true) : ∀ s ∈ t, zdz s = true := by
  unfold zaB at h
  simp only [Bool.and_eq_true, List.all_eq_true] at h
  exact h.2
theorem zie {s : Str} (h : zdz s = true) : s.length ≤ 12 := by
  unfold zdz at h
  simp only [Bool.and_eq_true, Bool.not_eq_true', decide_eq_false_iff_not] at h
  omega
theorem znc {a b c : List Str} (ha : Bk.fit a) (hb : Bk.fit b) (hc : Bk.fit c) : zfz a b c = some (zaB a && (zaB b && zaB c)) := by
  unfold zfz
  simp only [jn, zfT ha, zfT hb, zfT hc, Option.bind_some]
  cases zaB a <;> cases zaB b <;> rfl
theorem zfr {xs ys : List Str} (h : xs.length ≤ maxi) : zaw xs ys = some (xs == ys) := by
  unfold zaw
  simp only [ziO, jn, zak]
  by_cases hn : xs.length = ys.length
  · rw [hn, beq_self_eq_true, Bool.not_true, cond_false, ← hn]
    rw [ziN (α := Str) (r0 := some false) (Z := some true) (f := fun m i => zax xs ys (fun _ _ => some true) m false i) hn (fun m i x y hx hy => by
      simp only [zax, zal hx, zaf hx, zaf hy, cond_true, Option.bind_some, zac (zau hx) h, bne]
      cases x == y <;> rfl) (fun m => by simp only [zax, zad, cond_false]) (by omega)]
    cases xs == ys <;> rfl
  · rw [beq_false_of_ne hn, Bool.not_false, cond_true, beq_false_of_ne (fun e => hn (by rw [e]))]
theorem zgj {xs ys : List Str} (h : xs.length ≤ maxi) : zdi xs ys = some (xs == ys) := by
  unfold zdi
  simp only [ziO, jn, zak]
  by_cases hn : xs.length = ys.length
  · rw [hn, beq_self_eq_true, Bool.not_true, cond_false, ← hn]
    rw [ziN (α := Str) (r0 := some false) (Z := some true) (f := fun m i => zcj xs ys (fun _ _ => some true) m false i) hn (fun m i x y hx hy => by
      simp only [zcj, zal hx, zaf hx, zaf hy, cond_true, Option.bind_some, zac (zau hx) h, bne]
      cases x == y <;> rfl) (fun m => by simp only [zcj, zad, cond_false]) (by omega)]
    cases xs == ys <;> rfl
  · rw [beq_false_of_ne hn, Bool.not_false, cond_true, beq_false_of_ne (fun e => hn (by rw [e]))]
theorem za8 {x : List Str} (h : x.length ≤ 1048576) : zbu x = some x := by
  unfold zbu
  rw [apN h]; rfl
def zsq (r : l30Rd) (p : Int) : Prop := r.b.length ≤ 2000 ∧ 0 ≤ r.p ∧ r.p ≤ p
theorem zsq.on {r : l30Rd} {p q : Int} (h : zsq r p) (k : Int) (hk : 0 ≤ k) (hq : r.p + k ≤ q) : zsq ⟨r.b, r.p + k⟩ q := ⟨h.1, by have := h.2.1; show 0 ≤ r.p + k; omega, hq⟩
def zgb : List Str → List Str → Int
  | [], _ => 0
  | _ :: _, [] => 0
  | x :: xs, y :: ys => if x == y then zgb xs ys + 1 else zq7 (zgb xs (y :: ys)) (zgb (x :: xs) ys)
termination_by a b => a.length + b.length
theorem zkh (b : List Str) : zgb [] b = 0 := by rw [zgb]
theorem zi5 (a : List Str) : zgb a [] = 0 := by cases a <;> rw [zgb]
theorem zi6 (x y : Str) (xs ys : List Str) : zgb (x :: xs) (y :: ys) = if x == y then zgb xs ys + 1 else zq7 (zgb xs (y :: ys)) (zgb (x :: xs) ys) := by rw [zgb]
theorem zdl : ∀ (n : Nat) (a b : List Str), a.length + b.length ≤ n → 0 ≤ zgb a b ∧ zgb a b ≤ a.length
  | _, [], b, _ => by rw [zkh]; simp
  | _, x :: xs, [], _ => by rw [zi5]; simp; omega
  | 0, x :: xs, y :: ys, h => by simp at h
  | n + 1, x :: xs, y :: ys, h => by
    simp only [List.length_cons] at h
    have h1 := zdl n xs ys (by omega)
    have h2 := zdl n xs (y :: ys) (by simp; omega)
    have h3 := zdl n (x :: xs) ys (by simp; omega)
    rw [zi6]
    simp only [List.length_cons] at *
    split
    · omega
    · unfold zq7; split <;> omega
theorem zo6 (a b : List Str) : 0 ≤ zgb a b := (zdl _ a b (Nat.le_refl _)).1
theorem zo7 (a b : List Str) : zgb a b ≤ a.length := (zdl _ a b (Nat.le_refl _)).2
def zgo (n : Nat) (g : Nat → Int) : List Int := (List.range n).map g
def zfk (n m : Nat) (f : Nat → Nat → Int) : List (List Int) := (List.range n).map fun i => zgo m (f i)
theorem zkP {n : Nat} {g g' : Nat → Int} (h : ∀ k, k < n → g k = g' k) : zgo n g = zgo n g' := by
  unfold zgo
  exact List.map_congr_left fun k hk => h k (List.mem_range.1 hk)
theorem zex {n m : Nat} {f f' : Nat → Nat → Int} (h : ∀ i k, i < n → k < m → f i k = f' i k) : zfk n m f = zfk n m f' := by
  unfold zfk
  exact List.map_congr_left fun i hi => zkP fun k hk => h i k (List.mem_range.1 hi) hk
theorem zgR {n k : Nat} {g : Nat → Int} (h : k < n) : gi (zgo n g) (k : Int) = some (g k) := zaf (by simp [zgo, h])
theorem zgS {n m i : Nat} {f : Nat → Nat → Int} (h : i < n) : gi (zfk n m f) (i : Int) = some (zgo m (f i)) := zaf (by simp [zfk, h])
theorem zki {n k : Nat} {g : Nat → Int} {v : Int} (h : k < n) : siM (zgo n g) (k : Int) v = some (zgo n fun k' => if k' = k then v else g k') := by
  rw [zbG (by simp [zgo, h])]
  congr 1
  apply List.ext_getElem?
  intro j
  unfold zgo
  by_cases hj : j = k
  · subst hj
    rw [List.getElem?_set_self (by simp [h])]
    simp [h]
  · rw [List.getElem?_set_ne (Ne.symm hj)]
    by_cases hl : j < n
    · simp [hl, hj]
    · rw [List.getElem?_eq_none (by simp; omega), List.getElem?_eq_none (by simp; omega)]
theorem zkj {n m i : Nat} {f : Nat → Nat → Int} {g : Nat → Int} (h : i < n) : siM (zfk n m f) (i : Int) (zgo m g) = some (zfk n m fun i' => if i' = i then g else f i') := by
  rw [zbG (by simp [zfk, h])]
  congr 1
  apply List.ext_getElem?
  intro j
  unfold zfk
  by_cases hj : j = i
  · subst hj
    rw [List.getElem?_set_self (by simp [h])]
    simp [h]
  · rw [List.getElem?_set_ne (Ne.symm hj)]
    by_cases hl : j < n
    · simp [hl, hj]
    · rw [List.getElem?_eq_none (by simp; omega), List.getElem?_eq_none (by simp; omega)]
section
variable (a b : List Str)
def za5 (i k : Nat) : Int := zgb (a.drop i) (b.drop k)
def zbf (i k i' k' : Nat) : Int := if i < i' ∨ (i = i' ∧ k ≤ k') then za5 a b i' k' else 0
def zp9 : List (List Int) := zfk (a.length + 1) (b.length + 1) (za5 a b)
end
section
variable {a b : List Str}
theorem zlO (i : Nat) : za5 a b i b.length = 0 := by unfold za5; rw [List.drop_length, zi5]
theorem zkQ (k : Nat) : za5 a b a.length k = 0 := by unfold za5; rw [List.drop_length, zkh]
theorem zkk (i k : Nat) : 0 ≤ za5 a b i k := zo6 _ _
theorem zkl (i k : Nat) : za5 a b i k ≤ a.length := by
  have := zo7 (a.drop i) (b.drop k)
  unfold za5
  simp only [List.length_drop] at this
  omega
theorem zhT {i k : Nat} {x y : Str} (hx : a[i]? = some x) (hy : b[k]? = some y) : za5 a b i k = if x == y then za5 a b (i + 1) (k + 1) + 1 else zq7 (za5 a b (i + 1) k) (za5 a b i (k + 1)) := by
  have hi := zau hx
  have hk := zau hy
  have ex : a[i] = x := by rw [List.getElem?_eq_getElem hi] at hx; exact Option.some.inj hx
  have ey : b[k] = y := by rw [List.getElem?_eq_getElem hk] at hy; exact Option.some.inj hy
  unfold za5
  rw [List.drop_eq_getElem_cons hi, List.drop_eq_getElem_cons hk, zi6, ex, ey]
theorem zel {i k : Nat} {v : Int} (hv : v = za5 a b i k) (n m : Nat) : zfk n m (fun i' => if i' = i then (fun k' => if k' = k then v else zbf a b i (k + 1) i k') else zbf a b i (k + 1) i') = zfk n m (zbf a b i k) := by
  refine zex fun i' k' _ _ => ?_
  by_cases h1 : i' = i
  · subst h1
    rw [if_pos rfl]
    by_cases h2 : k' = k
    · subst h2
      rw [if_pos rfl, hv]
      simp [zbf]
    · rw [if_neg h2]
      simp only [zbf, Nat.lt_irrefl, false_or, true_and]
      by_cases h3 : k + 1 ≤ k'
      · rw [if_pos h3, if_pos (by omega)]
      · rw [if_neg h3, if_neg (by omega)]
  · rw [if_neg h1]
    simp only [zbf]
    by_cases h3 : i < i'
    · rw [if_pos (.inl h3), if_pos (.inl h3)]
    · rw [if_neg (by omega), if_neg (by omega)]
theorem zhU (i : Nat) : zfk (a.length + 1) (b.length + 1) (zbf a b (i + 1) 0) = zfk (a.length + 1) (b.length + 1) (zbf a b i b.length) := by
  refine zex fun i' k' _ hk => ?_
  simp only [zbf, Nat.zero_le, and_true]
  by_cases h : i < i'
  · rw [if_pos (by omega), if_pos (.inl h)]
  · rw [if_neg (by omega)]
    by_cases h2 : i = i' ∧ b.length ≤ k'
    · rw [if_pos (.inr h2), show k' = b.length by omega, zlO]
    · rw [if_neg (by omega)]
theorem zgT : zfk (a.length + 1) (b.length + 1) (fun _ _ => 0) = zfk (a.length + 1) (b.length + 1) (zbf a b a.length 0) := by
  refine zex fun i' k' hi _ => ?_
  simp only [zbf, Nat.zero_le, and_true]
  by_cases h : a.length < i' ∨ a.length = i'
  · rw [if_pos h, show i' = a.length by omega, zkQ]
  · rw [if_neg h]
theorem zi7 : zfk (a.length + 1) (b.length + 1) (zbf a b 0 0) = zp9 a b := by
  refine zex fun i' k' _ _ => ?_
  simp only [zbf, Nat.zero_le, and_true]
  rw [if_pos (by omega)]
theorem zlP (hb : b.length ≤ maxi) (hN : (a.length : Int) + 1 ≤ 9223372036854775807) {i : Nat} (hi : i < a.length) {R : Int → List (List Int) → Option (List (List Int))} : ∀ (k m : Nat), k ≤ b.length → k < m →
    zd5 a b (i : Int) R m ((k : Int) - 1) (zfk (a.length + 1) (b.length + 1) (zbf a b i k)) = R (-1) (zfk (a.length + 1) (b.length + 1) (zbf a b i 0))
  | 0, 0, _, h => by omega
  | 0, m + 1, _, _ => by
    simp only [zd5]
    rw [decide_eq_false (by omega)]; rfl
  | k + 1, 0, _, h => by omega
  | k + 1, m + 1, hk, hm => by
    unfold maxi at hb
    have hx : a[i]? = some a[i] := List.getElem?_eq_getElem hi
    have hy : b[k]? = some b[k] := List.getElem?_eq_getElem (by omega)
    have hst := zhT hx hy
    have e1 : (((k + 1 : Nat) : Int) - 1) = (k : Int) := by omega
    have e2 : w64 ((i : Int) + 1) = ((i + 1 : Nat) : Int) := by rw [zai (by omega) (by omega)]; omega
    have e3 : w64 ((k : Int) + 1) = ((k + 1 : Nat) : Int) := by rw [zai (by omega) (by omega)]; omega
    have e4 : w64 ((k : Int) - 1) = (k : Int) - 1 := zai (by omega) (by omega)
    have s1 : zbf a b i (k + 1) (i + 1) (k + 1) = za5 a b (i + 1) (k + 1) := by simp [zbf]
    have s2 : zbf a b i (k + 1) (i + 1) k = za5 a b (i + 1) k := by simp [zbf]
    have s3 : zbf a b i (k + 1) i (k + 1) = za5 a b i (k + 1) := by simp [zbf]
    have lo := zkk (a := a) (b := b) (i + 1) (k + 1)
    have hi' := zkl (a := a) (b := b) (i + 1) (k + 1)
    have ih := zlP (by unfold maxi; exact hb) hN hi (R := R) k m (by omega) (by omega)
    simp only [zd5, jn, e1, e2, e3, e4, zaf hx, zaf hy, Option.bind_some, decide_eq_true (show (0 : Int) ≤ (k : Int) by omega), cond_true,
      zgS (show i < a.length + 1 by omega), zgS (show i + 1 < a.length + 1 by omega), zgR (show k < b.length + 1 by omega), zgR (show k + 1 < b.length + 1 by omega), s1, s2, s3,
      zki (show k < b.length + 1 by omega), zkj (show i < a.length + 1 by omega)]
    cases he : a[i] == b[k] with
    | true =>
      rw [he, if_pos rfl] at hst
      rw [cond_true, zai (by omega) (by omega), zel hst.symm]
      exact ih
    | false =>
      rw [he, if_neg (by simp)] at hst
      rw [cond_false, zel hst.symm]
      exact ih
theorem zlQ (hb : b.length ≤ maxi) (hN : (a.length : Int) + 1 ≤ 9223372036854775807) (hNb : (b.length : Int) + 1 ≤ 9223372036854775807) {R : Int → List (List Int) → Option (List (List Int))} : ∀ (i m : Nat), i ≤ a.length → i < m →
    zc0 a b R m ((i : Int) - 1) (zfk (a.length + 1) (b.length + 1) (zbf a b i 0)) = R (-1) (zfk (a.length + 1) (b.length + 1) (zbf a b 0 0))
  | 0, 0, _, h => by omega
  | 0, m + 1, _, _ => by
    simp only [zc0]
    rw [decide_eq_false (by omega)]; rfl
  | i + 1, 0, _, h => by omega
  | i + 1, m + 1, hi, hm => by
    have e1 : (((i + 1 : Nat) : Int) - 1) = (i : Int) := by omega
    have e2 : w64 ((b.length : Int) - 1) = (b.length : Int) - 1 := zai (by omega) (by omega)
    have e3 : w64 ((i : Int) - 1) = (i : Int) - 1 := zai (by omega) (by omega)
    simp only [zc0, jn, e1, e2, decide_eq_true (show (0 : Int) ≤ (i : Int) by omega), cond_true]
    rw [zhU, zlP hb hN (by omega) b.length _ (Nat.le_refl _) (by omega), e3]
    exact zlQ hb hN hNb i m (by omega) (by omega)
theorem zlR (hb : b.length ≤ 1048576) {N : Nat} (hN : N ≤ 1048576) {q : List (List Int)} (hq : q.length = N) {R : Int → List (List Int) → Option (List (List Int))} : ∀ (n i m : Nat), i + n = N → n < m →
    zd6 b q R m (i : Int) ((List.range i).map (fun _ => zgo (b.length + 1) fun _ => 0) ++ List.replicate n []) = R (N : Int) (zfk N (b.length + 1) fun _ _ => 0)
  | n, i, 0, _, h => by omega
  | 0, i, m + 1, hi, _ => by
    simp only [zd6]
    rw [hq, decide_eq_false (by omega), show i = N by omega]
    simp [zfk]
  | n + 1, i, m + 1, hi, hm => by
    have e1 : w64 ((b.length : Int) + 1) = ((b.length + 1 : Nat) : Int) := by rw [zai (by omega) (by omega)]; omega
    have e2 : w64 ((i : Int) + 1) = ((i + 1 : Nat) : Int) := by rw [zai (by omega) (by omega)]; omega
    have hl : ((List.range i).map (fun _ => zgo (b.length + 1) fun _ => 0) ++ List.replicate (n + 1) []).length = i + (n + 1) := by simp
    obtain ⟨u, hu⟩ : ∃ u, ((List.range i).map (fun _ => zgo (b.length + 1) fun _ => 0) ++ List.replicate (n + 1) ([] : List Int))[i]? = some u := ⟨_, List.getElem?_eq_getElem (by omega)⟩
    simp only [zd6, hq, e1, e2, decide_eq_true (show (i : Int) < (N : Int) by omega), cond_true, zgO (show b.length + 1 ≤ lim by unfold lim; omega), Option.bind_some, zaf hu]
    rw [zbG (by rw [hl]; omega), Option.bind_some]
    have hset : ((List.range i).map (fun _ => zgo (b.length + 1) fun _ => 0) ++ List.replicate (n + 1) []).set i (List.replicate (b.length + 1) (0 : Int)) = (List.range (i + 1)).map (fun _ => zgo (b.length + 1) fun _ => 0) ++ List.replicate n [] := by
      rw [List.set_append, if_neg (by simp)]
      have hr : zgo (b.length + 1) (fun _ => 0) = List.replicate (b.length + 1) (0 : Int) := by
        unfold zgo
        rw [List.map_const', List.length_range]
      simp [List.range_succ, List.replicate_succ, hr]
    rw [hset]
    exact zlR hb hN hq n (i + 1) m (by omega) (by omega)
theorem zo8 (ha : a.length ≤ 1000) (hb : b.length ≤ 1000) : zi4 a b = some (zp9 a b) := by
  unfold zi4
  have e1 : w64 ((a.length : Int) + 1) = ((a.length + 1 : Nat) : Int) := by rw [zai (by omega) (by omega)]; omega
  have e2 : w64 ((a.length : Int) - 1) = (a.length : Int) - 1 := zai (by omega) (by omega)
  rw [e1, zgO (by unfold lim; omega), Option.bind_some]
  simp only [jn, e2]
  have h1 := zlR (b := b) (by omega) (N := a.length + 1) (by omega) (q := List.replicate (a.length + 1) []) (by simp)
    (R := fun y6 y7 => zc0 a b (fun y27 y29 => some y29) (((a.length : Int) - 1 + 1 - 0).toNat + 1) ((a.length : Int) - 1) y7) (a.length + 1) 0 (((List.replicate (a.length + 1) ([] : List Int)).length - (0 : Int)).toNat + 1) (by omega) (by simp)
  simp only [List.range_zero, List.map_nil, List.nil_append] at h1
  refine h1.trans ?_
  rw [zgT, zlQ (by unfold maxi; omega) (by omega) (by omega) a.length _ (Nat.le_refl _) (by omega), zi7]
theorem zlS (hb : b.length ≤ maxi) (hN : (a.length : Int) + 1 ≤ 9223372036854775807) {i : Nat} (hi : i < a.length) {R : Int → List (List Int) → Option (List (List Int))} : ∀ (k m : Nat), k ≤ b.length → k < m →
    zbO a b (i : Int) R m ((k : Int) - 1) (zfk (a.length + 1) (b.length + 1) (zbf a b i k)) = R (-1) (zfk (a.length + 1) (b.length + 1) (zbf a b i 0))
  | 0, 0, _, h => by omega
  | 0, m + 1, _, _ => by
    simp only [zbO]
    rw [decide_eq_false (by omega)]; rfl
  | k + 1, 0, _, h => by omega
  | k + 1, m + 1, hk, hm => by
    unfold maxi at hb
    have hx : a[i]? = some a[i] := List.getElem?_eq_getElem hi
    have hy : b[k]? = some b[k] := List.getElem?_eq_getElem (by omega)
    have hst := zhT hx hy
    have e1 : (((k + 1 : Nat) : Int) - 1) = (k : Int) := by omega
    have e2 : w64 ((i : Int) + 1) = ((i + 1 : Nat) : Int) := by rw [zai (by omega) (by omega)]; omega
    have e3 : w64 ((k : Int) + 1) = ((k + 1 : Nat) : Int) := by rw [zai (by omega) (by omega)]; omega
    have e4 : w64 ((k : Int) - 1) = (k : Int) - 1 := zai (by omega) (by omega)
    have s1 : zbf a b i (k + 1) (i + 1) (k + 1) = za5 a b (i + 1) (k + 1) := by simp [zbf]
    have s2 : zbf a b i (k + 1) (i + 1) k = za5 a b (i + 1) k := by simp [zbf]
    have s3 : zbf a b i (k + 1) i (k + 1) = za5 a b i (k + 1) := by simp [zbf]
    have lo := zkk (a := a) (b := b) (i + 1) (k + 1)
    have hi' := zkl (a := a) (b := b) (i + 1) (k + 1)
    have ih := zlS (by unfold maxi; exact hb) hN hi (R := R) k m (by omega) (by omega)
    simp only [zbO, jn, e1, e2, e3, e4, zaf hx, zaf hy, Option.bind_some, decide_eq_true (show (0 : Int) ≤ (k : Int) by omega), cond_true,
      zgS (show i < a.length + 1 by omega), zgS (show i + 1 < a.length + 1 by omega), zgR (show k < b.length + 1 by omega), zgR (show k + 1 < b.length + 1 by omega), s1, s2, s3,
      zki (show k < b.length + 1 by omega), zkj (show i < a.length + 1 by omega)]
    cases he : a[i] == b[k] with
    | true =>
      rw [he, if_pos rfl] at hst
      rw [cond_true, zai (by omega) (by omega), zel hst.symm]
      exact ih
    | false =>
      rw [he, if_neg (by simp)] at hst
      rw [cond_false]
      unfold zq7 at hst
      by_cases hc : za5 a b i (k + 1) ≤ za5 a b (i + 1) k
      · rw [if_neg (by omega)] at hst
        rw [decide_eq_true hc, cond_true, zel hst.symm]
        exact ih
      · rw [if_pos (by omega)] at hst
        rw [decide_eq_false hc, cond_false, zel hst.symm]
        exact ih
theorem zlT (hb : b.length ≤ maxi) (hN : (a.length : Int) + 1 ≤ 9223372036854775807) (hNb : (b.length : Int) + 1 ≤ 9223372036854775807) {R : Int → List (List Int) → Option (List (List Int))} : ∀ (i m : Nat), i ≤ a.length → i < m →
    zbh a b R m ((i : Int) - 1) (zfk (a.length + 1) (b.length + 1) (zbf a b i 0)) = R (-1) (zfk (a.length + 1) (b.length + 1) (zbf a b 0 0))
  | 0, 0, _, h => by omega
  | 0, m + 1, _, _ => by
    simp only [zbh]
    rw [decide_eq_false (by omega)]; rfl
  | i + 1, 0, _, h => by omega
  | i + 1, m + 1, hi, hm => by
    have e1 : (((i + 1 : Nat) : Int) - 1) = (i : Int) := by omega
    have e2 : w64 ((b.length : Int) - 1) = (b.length : Int) - 1 := zai (by omega) (by omega)
    have e3 : w64 ((i : Int) - 1) = (i : Int) - 1 := zai (by omega) (by omega)
    simp only [zbh, jn, e1, e2, decide_eq_true (show (0 : Int) ≤ (i : Int) by omega), cond_true]
    rw [zhU, zlS hb hN (by omega) b.length _ (Nat.le_refl _) (by omega), e3]
    exact zlT hb hN hNb i m (by omega) (by omega)
theorem zlU (ha : a.length ≤ 1000) (hb : b.length ≤ 1000) {R : List (List Int) → Int → Option (List (List Int))} : ∀ (n i m : Nat), i + n = a.length + 1 → n < m →
    zbP a b R m ((List.range i).map (fun _ => zgo (b.length + 1) fun _ => 0)) (i : Int) = R (zfk (a.length + 1) (b.length + 1) fun _ _ => 0) ((a.length + 1 : Nat) : Int)
  | n, i, 0, _, h => by omega
  | 0, i, m + 1, hi, _ => by
    simp only [zbP]
    rw [decide_eq_false (by omega), show i = a.length + 1 by omega]
    simp [zfk]
  | n + 1, i, m + 1, hi, hm => by
    have e1 : w64 ((b.length : Int) + 1) = ((b.length + 1 : Nat) : Int) := by rw [zai (by omega) (by omega)]; omega
    have e2 : w64 ((i : Int) + 1) = ((i + 1 : Nat) : Int) := by rw [zai (by omega) (by omega)]; omega
    have hr : zgo (b.length + 1) (fun _ => 0) = List.replicate (b.length + 1) (0 : Int) := by
      unfold zgo
      rw [List.map_const', List.length_range]
    simp only [zbP, e1, e2, decide_eq_true (show (i : Int) ≤ (a.length : Int) by omega), cond_true, zgO (show b.length + 1 ≤ lim by unfold lim; omega), Option.bind_some]
    rw [zhy (by simp [lim]; omega), Option.bind_some]
    have hset : (List.range i).map (fun _ => zgo (b.length + 1) fun _ => 0) ++ [List.replicate (b.length + 1) (0 : Int)] = (List.range (i + 1)).map (fun _ => zgo (b.length + 1) fun _ => 0) := by
      simp [List.range_succ, hr]
    rw [hset]
    exact zlU ha hb n (i + 1) m (by omega) (by omega)
theorem zo9 (ha : a.length ≤ 1000) (hb : b.length ≤ 1000) : zeZ a b = some (zp9 a b) := by
  unfold zeZ
  have e2 : w64 ((a.length : Int) - 1) = (a.length : Int) - 1 := zai (by omega) (by omega)
  simp only [jn, e2]
  have h1 := zlU (a := a) (b := b) ha hb
    (R := fun y3 y6 => zbh a b (fun y28 y30 => some y30) (((a.length : Int) - 1 + 1 - 0).toNat + 1) ((a.length : Int) - 1) y3) (a.length + 1) 0 (((a.length : Int) + 1 - 0).toNat + 1) (by omega) (by omega)
  simp only [List.range_zero, List.map_nil] at h1
  refine h1.trans ?_
  rw [zgT, zlT (by unfold maxi; omega) (by omega) (by omega) a.length _ (Nat.le_refl _) (by omega), zi7]
end
def mtF : List Str → List Str → Nat → List Int
  | [], _, _ => []
  | _ :: xs, [], k => -1 :: mtF xs [] k
  | x :: xs, y :: ys, k => if x == y then (k : Int) :: mtF xs ys (k + 1) else if zgb (x :: xs) ys ≤ zgb xs (y :: ys) then -1 :: mtF xs (y :: ys) k else mtF (x :: xs) ys (k + 1)
termination_by a b _ => a.length + b.length
theorem zhz (b : List Str) (k : Nat) : mtF [] b k = [] := by rw [mtF]
theorem zgI (x : Str) (xs : List Str) (k : Nat) : mtF (x :: xs) [] k = -1 :: mtF xs [] k := by rw [mtF]
theorem zgc (x y : Str) (xs ys : List Str) (k : Nat) : mtF (x :: xs) (y :: ys) k = if x == y then (k : Int) :: mtF xs ys (k + 1) else if zgb (x :: xs) ys ≤ zgb xs (y :: ys) then -1 :: mtF xs (y :: ys) k else mtF (x :: xs) ys (k + 1) := by rw [mtF]
def mt2 (a b : List Str) : List Int := mtF a b 0
theorem zm7 {xs : List Int} {x : Int} (h : xs.length ≤ 1000000) : apM xs [x] = some (xs ++ [x]) := zhy (by simp [lim]; omega)
section
variable {a b : List Str}
theorem zif {i k : Nat} (hi : i ≤ a.length) (hk : k ≤ b.length) : ∃ r, gi (zp9 a b) (i : Int) = some r ∧ gi r (k : Int) = some (za5 a b i k) :=
  ⟨_, zgS (by omega), zgR (by omega)⟩
theorem zb4 {i : Nat} (h : i < a.length) : a.drop i = a[i] :: a.drop (i + 1) := List.drop_eq_getElem_cons h
theorem zi8 (ha : a.length ≤ 1000) (hb : b.length ≤ 1000) : ∀ (m i k : Nat) (out : List Int), (a.length - i) + (b.length - k) < m → i ≤ a.length → k ≤ b.length → out.length = i →
    zde a b (zp9 a b) (fun y5 _ _ => some y5) m out (i : Int) (k : Int) = some (out ++ mtF (a.drop i) (b.drop k) k)
  | 0, i, k, out, hm, _, _, _ => by omega
  | m + 1, i, k, out, hm, hi, hk, ho => by
    have e2 : w64 ((i : Int) + 1) = ((i + 1 : Nat) : Int) := by rw [zai (by omega) (by omega)]; omega
    have e3 : w64 ((k : Int) + 1) = ((k + 1 : Nat) : Int) := by rw [zai (by omega) (by omega)]; omega
    simp only [zde, jn, e2, e3]
    by_cases hil : i < a.length
    case neg =>
      rw [decide_eq_false (by omega), cond_false, show i = a.length by omega, List.drop_length, zhz, List.append_nil]
    have hx : a[i]? = some a[i] := List.getElem?_eq_getElem hil
    rw [decide_eq_true (by omega), cond_true, zb4 hil]
    by_cases hkl : k < b.length
    case neg =>
      have hke : k = b.length := by omega
      rw [decide_eq_false (by omega), cond_false, cond_false, show ((k : Int) == (b.length : Int)) = true by simp [hke], cond_true, cond_true, zm7 (by omega), Option.bind_some,
        zi8 ha hb m (i + 1) k _ (by omega) (by omega) hk (by simp [ho])]
      rw [hke, List.drop_length, zgI]
      simp
    have hy : b[k]? = some b[k] := List.getElem?_eq_getElem hkl
    rw [decide_eq_true (by omega), cond_true, zaf hx, Option.bind_some, zaf hy, Option.bind_some, zb4 hkl, zgc]
    cases he : a[i] == b[k] with
    | true =>
      rw [cond_true, zm7 (by omega), Option.bind_some, zi8 ha hb m (i + 1) (k + 1) _ (by omega) (by omega) (by omega) (by simp [ho])]
      simp
    | false =>
      rw [cond_false, show ((k : Int) == (b.length : Int)) = false by simp; omega, cond_false]
      obtain ⟨r1, h1, h2⟩ := zif (a := a) (b := b) (i := i + 1) (k := k) (by omega) (by omega)
      obtain ⟨r3, h3, h4⟩ := zif (a := a) (b := b) (i := i) (k := k + 1) (by omega) (by omega)
      rw [h1, Option.bind_some, h2, Option.bind_some, h3, Option.bind_some, h4, Option.bind_some]
      have c1 : za5 a b i (k + 1) = zgb (a[i] :: a.drop (i + 1)) (b.drop (k + 1)) := by unfold za5; rw [zb4 hil]
      have c2 : za5 a b (i + 1) k = zgb (a.drop (i + 1)) (b[k] :: b.drop (k + 1)) := by unfold za5; rw [zb4 hkl]
      rw [← c1, ← c2]
      by_cases hc : za5 a b i (k + 1) ≤ za5 a b (i + 1) k
      · rw [decide_eq_true hc, cond_true, zm7 (by omega), Option.bind_some, zi8 ha hb m (i + 1) k _ (by omega) (by omega) hk (by simp [ho]), if_neg (by simp), if_pos hc, zb4 hkl]
        simp
      · rw [decide_eq_false hc, cond_false, zi8 ha hb m i (k + 1) _ (by omega) hi (by omega) ho, if_neg (by simp), if_neg hc, zb4 hil]
theorem zi9 (ha : a.length ≤ 1000) (hb : b.length ≤ 1000) : zfo a b = some (mt2 a b) := by
  unfold zfo
  rw [zo8 ha hb, Option.bind_some]
  simp only [jn]
  have := zi8 ha hb (a.length + b.length + 1) 0 0 [] (by omega) (by omega) (by omega) rfl
  simpa [mt2] using this
theorem zja (ha : a.length ≤ 1000) (hb : b.length ≤ 1000) : ∀ (m i k : Nat) (out : List Int), (a.length - i) + (b.length - k) < m → i ≤ a.length → k ≤ b.length → out.length = i →
    zb7 a b (zp9 a b) (fun y5 _ _ => some y5) m out (k : Int) (i : Int) = some (out ++ mtF (a.drop i) (b.drop k) k)
  | 0, i, k, out, hm, _, _, _ => by omega
  | m + 1, i, k, out, hm, hi, hk, ho => by
    have e2 : w64 ((i : Int) + 1) = ((i + 1 : Nat) : Int) := by rw [zai (by omega) (by omega)]; omega
    have e3 : w64 ((k : Int) + 1) = ((k + 1 : Nat) : Int) := by rw [zai (by omega) (by omega)]; omega
    simp only [zb7, jn, e2, e3]
    by_cases hil : i < a.length
    case neg =>
      rw [decide_eq_false (by omega), cond_false, show i = a.length by omega, List.drop_length, zhz, List.append_nil]
    have hx : a[i]? = some a[i] := List.getElem?_eq_getElem hil
    rw [decide_eq_true (by omega), cond_true, zb4 hil]
    by_cases hkl : k < b.length
    case neg =>
      have hke : k = b.length := by omega
      rw [decide_eq_false (by omega), cond_false, cond_false, decide_eq_true (by omega), cond_true, cond_true, zm7 (by omega), Option.bind_some,
        zja ha hb m (i + 1) k _ (by omega) (by omega) hk (by simp [ho])]
      rw [hke, List.drop_length, zgI]
      simp
    have hy : b[k]? = some b[k] := List.getElem?_eq_getElem hkl
    rw [decide_eq_true (by omega), cond_true, zaf hx, Option.bind_some, zaf hy, Option.bind_some, zb4 hkl, zgc]
    cases he : a[i] == b[k] with
    | true =>
      rw [cond_true, zm7 (by omega), Option.bind_some, zja ha hb m (i + 1) (k + 1) _ (by omega) (by omega) (by omega) (by simp [ho])]
      simp
    | false =>
      rw [cond_false, decide_eq_false (by omega), cond_false]
      obtain ⟨r1, h1, h2⟩ := zif (a := a) (b := b) (i := i + 1) (k := k) (by omega) (by omega)
      obtain ⟨r3, h3, h4⟩ := zif (a := a) (b := b) (i := i) (k := k + 1) (by omega) (by omega)
      rw [h1, Option.bind_some, h2, Option.bind_some, h3, Option.bind_some, h4, Option.bind_some]
      have c1 : za5 a b i (k + 1) = zgb (a[i] :: a.drop (i + 1)) (b.drop (k + 1)) := by unfold za5; rw [zb4 hil]
      have c2 : za5 a b (i + 1) k = zgb (a.drop (i + 1)) (b[k] :: b.drop (k + 1)) := by unfold za5; rw [zb4 hkl]
      rw [← c1, ← c2]
      by_cases hc : za5 a b i (k + 1) ≤ za5 a b (i + 1) k
      · rw [decide_eq_true hc, cond_true, zm7 (by omega), Option.bind_some, zja ha hb m (i + 1) k _ (by omega) (by omega) hk (by simp [ho]), if_neg (by simp), if_pos hc, zb4 hkl]
        simp
      · rw [decide_eq_false hc, cond_false, zja ha hb m i (k + 1) _ (by omega) hi (by omega) ho, if_neg (by simp), if_neg hc, zb4 hil]
theorem zjb (ha : a.length ≤ 1000) (hb : b.length ≤ 1000) : zdT a b = some (mt2 a b) := by
  unfold zdT
  rw [zo9 ha hb, Option.bind_some]
  simp only [jn]
  have := zja ha hb (a.length + b.length + 1) 0 0 [] (by omega) (by omega) (by omega) rfl
  simpa [mt2] using this
end
def Asc (hi : Int) : Int → List Int → Prop
  | _, [] => True
  | lo, x :: l => (x = -1 ∧ Asc hi lo l) ∨ (lo ≤ x ∧ x < hi ∧ Asc hi (x + 1) l)
theorem Asc.mono {hi : Int} : ∀ {l : List Int} {lo lo' : Int}, lo' ≤ lo → Asc hi lo l → Asc hi lo' l
  | [], _, _, _, _ => trivial
  | x :: l, lo, lo', h, .inl ⟨h1, h2⟩ => .inl ⟨h1, Asc.mono h h2⟩
  | x :: l, lo, lo', h, .inr ⟨h1, h2, h3⟩ => .inr ⟨by omega, h2, h3⟩
theorem zgd : ∀ (n : Nat) (a b : List Str) (k : Nat), a.length + b.length ≤ n → Asc ((k + b.length : Nat) : Int) (k : Int) (mtF a b k) ∧ (mtF a b k).length = a.length
  | _, [], b, k, _ => by rw [zhz]; exact ⟨trivial, rfl⟩
  | 0, x :: xs, b, k, h => by simp at h
  | n + 1, x :: xs, [], k, h => by
    rw [zgI]
    have := zgd n xs [] k (by simp at h ⊢; omega)
    exact ⟨.inl ⟨rfl, this.1⟩, by simp [this.2]⟩
  | n + 1, x :: xs, y :: ys, k, h => by
    simp only [List.length_cons] at h
    rw [zgc]
    split
    · have := zgd n xs ys (k + 1) (by omega)
      refine ⟨.inr ⟨Int.le_refl _, by simp only [List.length_cons]; omega, ?_⟩, by simp [this.2]⟩
      have h1 := this.1
      rw [show ((k + (y :: ys).length : Nat) : Int) = ((k + 1 + ys.length : Nat) : Int) by simp only [List.length_cons]; omega, show (k : Int) + 1 = ((k + 1 : Nat) : Int) by omega]
      exact h1
    · split
      · have := zgd n xs (y :: ys) k (by simp; omega)
        exact ⟨.inl ⟨rfl, this.1⟩, by simp [this.2]⟩
      · have := zgd n (x :: xs) ys (k + 1) (by simp; omega)
        refine ⟨?_, by simp [this.2]⟩
        have h1 := this.1
        rw [show ((k + (y :: ys).length : Nat) : Int) = ((k + 1 + ys.length : Nat) : Int) by simp only [List.length_cons]; omega]
        exact h1.mono (by omega)
theorem zfD (a b : List Str) : Asc (b.length : Int) 0 (mt2 a b) ∧ (mt2 a b).length = a.length := by
  have := zgd _ a b 0 (Nat.le_refl _)
  simpa [mt2] using this
theorem Asc.snoc {hi : Int} (h0 : 0 ≤ hi) : ∀ {l : List Int} {lo : Int}, lo ≤ hi → Asc hi lo l → Asc (hi + 1) lo (l ++ [hi])
  | [], lo, h, _ => .inr ⟨h, by omega, trivial⟩
  | x :: l, lo, h, .inl ⟨h1, h2⟩ => .inl ⟨h1, Asc.snoc h0 h h2⟩
  | x :: l, lo, h, .inr ⟨h1, h2, h3⟩ => .inr ⟨h1, by omega, Asc.snoc h0 (by omega) h3⟩
end Go.Vm
namespace Go.Sx
open Go
theorem zkR {R α σ : Type} {xs : List α} {step : σ → α → Option σ} {r0 : Option R} (Inv : Nat → σ → Prop) {f : Nat → σ → Int → Option R} {Z : σ → Option R} {s0 : σ}
    (hs : ∀ m (i : Nat) x s, xs[i]? = some x → Inv i s → (f (m + 1) s (i : Int) = match step s x with | some s' => f m s' ((i + 1 : Nat) : Int) | none => r0) ∧ ∀ s', step s x = some s' → Inv (i + 1) s')
    (he : ∀ m s, Inv xs.length s → f (m + 1) s (xs.length : Int) = Z s) {m : Nat} (hm : xs.length < m) (h0 : Inv 0 s0) :
    f m s0 0 = (match xs.foldlM step s0 with | some s => Z s | none => r0) ∧ ∀ s, xs.foldlM step s0 = some s → Inv xs.length s := by
  have key : ∀ k i m s, i + k = xs.length → k < m → Inv i s → f m s (i : Int) = (match (xs.drop i).foldlM step s with | some s => Z s | none => r0) ∧ ∀ s', (xs.drop i).foldlM step s = some s' → Inv xs.length s' := by
    intro k
    induction k with
    | zero =>
      intro i m s hi hm hI
      obtain ⟨m, rfl⟩ : ∃ q, m = q + 1 := ⟨m - 1, by omega⟩
      have hii : i = xs.length := by omega
      subst hii
      rw [he m s hI, List.drop_length]
      exact ⟨rfl, fun s' h => by have : s = s' := by simpa using h
                                 rw [← this]; exact hI⟩
    | succ k ih =>
      intro i m s hi hm hI
      obtain ⟨m, rfl⟩ : ∃ q, m = q + 1 := ⟨m - 1, by omega⟩
      have hlt : i < xs.length := by omega
      obtain ⟨h1, h2⟩ := hs m i xs[i] s (List.getElem?_eq_getElem hlt) hI
      rw [h1, List.drop_eq_getElem_cons hlt, List.foldlM_cons]
      cases hst : step s xs[i] with
      | none => exact ⟨rfl, fun s' h => by simp at h⟩
      | some s1 =>
        obtain ⟨h3, h4⟩ := ih (i + 1) m s1 (by omega) (by omega) (h2 s1 hst)
        exact ⟨h3, h4⟩
  have := key xs.length 0 m s0 (by omega) hm h0
  simpa using this
theorem zdm {R α : Type} {xs : List α} {p : α → Bool} {r : α → Option R} {Z : Option R} {f : Nat → Int → Option R}
    (hs : ∀ m (i : Nat) x, xs[i]? = some x → f (m + 1) (i : Int) = bif p x then r x else f m ((i + 1 : Nat) : Int)) (he : ∀ m, f (m + 1) (xs.length : Int) = Z) {m : Nat} (hm : xs.length < m) :
    f m 0 = match xs.find? p with | some x => r x | none => Z := by
  have key : ∀ k i m, i + k = xs.length → k < m → f m (i : Int) = match (xs.drop i).find? p with | some x => r x | none => Z := by
    intro k
    induction k with
    | zero =>
      intro i m hi hm
      obtain ⟨m, rfl⟩ : ∃ q, m = q + 1 := ⟨m - 1, by omega⟩
      rw [show i = xs.length by omega, he, List.drop_length]
      rfl
    | succ k ih =>
      intro i m hi hm
      obtain ⟨m, rfl⟩ : ∃ q, m = q + 1 := ⟨m - 1, by omega⟩
      have hlt : i < xs.length := by omega
      rw [hs m i xs[i] (List.getElem?_eq_getElem hlt), List.drop_eq_getElem_cons hlt, List.find?_cons]
      cases p xs[i] with
      | true => rfl
      | false => exact ih (i + 1) m (by omega) (by omega)
  have := key xs.length 0 m (by omega) hm
  simpa using this
end Go.Sx
namespace Go.Vm
open Go Go.Sx
set_option linter.unusedSimpArgs false
set_option linter.unusedVariables false
def lnP (l : List Str) : Part := ⟨false, l, [], [], []⟩
def zew (o a b : List Str) : Part := bif a == o || a == b then lnP b else bif b == o then lnP a else ⟨true, [], o, a, b⟩
def zkm (out : List Part) (p : Part) : List Part :=
  bif !p.Clash && p.Lines.length == 0 then out else
  match out[out.length - 1]? with
  | some q => bif !p.Clash && !q.Clash then out.set (out.length - 1) ⟨q.Clash, q.Lines ++ p.Lines, q.Old, q.One, q.Two⟩ else out ++ [p]
  | none => out ++ [p]
def PB (n : Nat) (out : List Part) : Prop := out.length ≤ n ∧ ∀ q ∈ out, q.Lines.length ≤ 1000 * n
theorem PB.mono {n m : Nat} {out : List Part} (h : PB n out) (hm : n ≤ m) : PB m out := ⟨Nat.le_trans h.1 hm, fun q hq => Nat.le_trans (h.2 q hq) (Nat.mul_le_mul_left _ hm)⟩
theorem zlj {n : Nat} {out : List Part} {p : Part} (h : PB n out) (hp : p.Lines.length ≤ 1000) : PB (n + 1) (zkm out p) := by
  have happ : PB (n + 1) (out ++ [p]) := ⟨by simp; exact h.1, fun q hq => by
    rcases List.mem_append.1 hq with h1 | h1
    · have := h.2 q h1; omega
    · rw [List.mem_singleton] at h1; rw [h1]; omega⟩
  unfold zkm
  cases (!p.Clash && p.Lines.length == 0) with
  | true => exact h.mono (by omega)
  | false =>
    rw [cond_false]
    split
    · rename_i q hq
      cases (!p.Clash && !q.Clash) with
      | false => exact happ
      | true =>
        rw [cond_true]
        refine ⟨by rw [List.length_set]; have := h.1; omega, fun r hr => ?_⟩
        rcases List.mem_or_eq_of_mem_set hr with h1 | h1
        · have := h.2 r h1; omega
        · rw [h1]
          have := h.2 q (List.mem_of_getElem? hq)
          simp only [List.length_append]
          omega
    · exact happ
theorem zig {o a b : List Str} (ha : a.length ≤ 1000) (hb : b.length ≤ 1000) : (zew o a b).Lines.length ≤ 1000 := by
  unfold zew lnP
  cases (a == o || a == b)
  · cases b == o
    · simp
    · exact ha
  · exact hb
theorem apL {xs ys : List Str} (h : xs.length ≤ 4000000) (h' : ys.length ≤ 1000) : apM xs ys = some (xs ++ ys) := zhy (by simp [lim]; omega)
theorem zpa {o a b : List Str} (ho : o.length ≤ 1000) (ha : a.length ≤ 1000) (hb : b.length ≤ 1000) : zg7 o a b = some (zew o a b) := by
  unfold zg7 zew lnP
  simp only [jn, zgj (show a.length ≤ maxi by unfold maxi; omega), zgj (show b.length ≤ maxi by unfold maxi; omega), Option.bind_some, apN (show o.length ≤ 1048576 by omega), apN (show a.length ≤ 1048576 by omega), apN (show b.length ≤ 1048576 by omega)]
  cases a == o <;> cases a == b <;> cases b == o <;> rfl
theorem zpb {n : Nat} (h : n ≤ 4000000) (h0 : 0 < n) : w64 ((n : Int) - 1) = ((n - 1 : Nat) : Int) := by rw [zai (by omega) (by omega)]; omega
theorem znz {n : Nat} {out : List Part} {p : Part} (h : PB n out) (hn : n ≤ 4000) (hp : p.Lines.length ≤ 1000) : zhq out p = some (zkm out p) := by
  have hl := h.1
  unfold zhq zkm
  have hz : (((p.Lines.length : Int)) == (0 : Int)) = (p.Lines.length == 0) := by
    have : ∀ b c : Bool, (b = true ↔ c = true) → b = c := by decide
    apply this; simp
  simp only [jn, hz, show (⟨p.Clash, p.Lines, p.Old, p.One, p.Two⟩ : Part) = p from rfl]
  have happ : apM out [p] = some (out ++ [p]) := zhy (by simp [lim]; omega)
  cases hc : p.Clash with
  | true =>
    simp only [Bool.not_true, Bool.false_and, cond_false, happ, Option.bind_some]
    by_cases h0 : 0 < out.length
    · rw [decide_eq_true (by omega), cond_true, List.getElem?_eq_getElem (by omega)]
    · rw [decide_eq_false (by omega), cond_false, List.getElem?_eq_none (by omega)]
  | false =>
    simp only [Bool.not_false, Bool.true_and, cond_true]
    cases hz2 : (p.Lines.length == 0) with
    | true => rfl
    | false =>
      simp only [cond_false]
      by_cases h0 : 0 < out.length
      · obtain ⟨q, hq⟩ : ∃ q, out[out.length - 1]? = some q := ⟨_, List.getElem?_eq_getElem (by omega)⟩
        have hql := h.2 q (List.mem_of_getElem? hq)
        rw [decide_eq_true (by omega), cond_true, zpb (by omega) h0, zaf hq, Option.bind_some, hq]
        cases hqc : q.Clash with
        | true => simp [happ, hqc]
        | false =>
          simp only [hqc, Bool.not_false, cond_true, Option.bind_some]
          rw [apL (by omega) hp, Option.bind_some, zbG (by omega), Option.bind_some]
      · rw [decide_eq_false (by omega), cond_false, List.getElem?_eq_none (by omega), happ]
        rfl
theorem c1_eq {n : Nat} {out : List Part} {l : List Str} (h : PB n out) (hn : n ≤ 4000) (hp : l.length ≤ 1000) : zca l out = some (zkm out (lnP l)) := by
  have hl := h.1
  unfold zca zkm lnP
  have hz : (((l.length : Int)) == (0 : Int)) = (l.length == 0) := by
    have : ∀ b c : Bool, (b = true ↔ c = true) → b = c := by decide
    apply this; simp
  simp only [jn, hz, Bool.not_false, Bool.true_and]
  cases hz2 : (l.length == 0) with
  | true => rfl
  | false =>
    simp only [cond_false]
    have happ : apM out [(⟨false, [], [], [], []⟩ : Part)] = some (out ++ [⟨false, [], [], [], []⟩]) := zhy (by simp [lim]; omega)
    have hat : (out ++ [(⟨false, [], [], [], []⟩ : Part)])[out.length]? = some ⟨false, [], [], [], []⟩ := by simp
    by_cases h0 : 0 < out.length
    · obtain ⟨q, hq⟩ : ∃ q, out[out.length - 1]? = some q := ⟨_, List.getElem?_eq_getElem (by omega)⟩
      have hql := h.2 q (List.mem_of_getElem? hq)
      rw [zpb (by omega) h0, decide_eq_false (by omega), cond_false, zaf hq, Option.bind_some, hq]
      cases hqc : q.Clash with
      | true =>
        have e1 : w64 (((out.length - 1 : Nat) : Int) + 1) = (out.length : Int) := by rw [zai (by omega) (by omega)]; omega
        rw [cond_true, happ, Option.bind_some, e1, zaf hat, Option.bind_some, apL (by simp) hp, Option.bind_some, Option.bind_some, zbG (by simp), Option.bind_some]
        simp [hqc]
      | false =>
        rw [cond_false, Option.bind_some, apL (by omega) hp, Option.bind_some, Option.bind_some, zbG (by omega), Option.bind_some]
        simp [hqc]
    · have e0 : w64 ((out.length : Int) - 1) = -1 := by rw [zai (by omega) (by omega)]; omega
      have e1 : w64 ((-1 : Int) + 1) = (out.length : Int) := by rw [zai (by omega) (by omega)]; omega
      rw [e0, List.getElem?_eq_none (by omega)]
      rw [show decide ((-1 : Int) < 0) = true by decide, cond_true, happ, Option.bind_some, e1, zaf hat, Option.bind_some, apL (by simp) hp, Option.bind_some, Option.bind_some, zbG (by simp), Option.bind_some]
      simp
theorem zn4 (out : List Part) (o a b : List Str) : zkm out ⟨true, [], o, a, b⟩ = out ++ [⟨true, [], o, a, b⟩] := by
  unfold zkm
  simp only [Bool.not_true, Bool.false_and, cond_false]
  split <;> rfl
def zb2 {α : Type} (xs : List α) (l h : Int) : List α := (xs.take h.toNat).drop l.toNat
theorem zdI {α : Type} (xs : List α) (l h : Int) : (zb2 xs l h).length ≤ xs.length := by unfold zb2; simp; omega
def zey (o a b : List Str) (i x y io ia ib : Int) (out : List Part) : List Part :=
  match o[i.toNat]? with
  | some s => zkm (zkm out (zew (zb2 o io i) (zb2 a ia x) (zb2 b ib y))) (lnP [s])
  | none => zkm out (zew (zb2 o io i) (zb2 a ia x) (zb2 b ib y))
def zb5 (o a b : List Str) : Int → List Int → List Int → Int → Int → Int → List Part → List Part
  | i, x :: ma, y :: mb, io, ia, ib, out =>
    bif decide (x < 0) || decide (y < 0) then zb5 o a b (i + 1) ma mb io ia ib out
    else zb5 o a b (i + 1) ma mb (i + 1) (x + 1) (y + 1) (zey o a b i x y io ia ib out)
  | _, [], _, _, _, _, out => out
  | _, _ :: _, [], _, _, _, out => out
def zbw (o a b : List Str) : List Part := zb5 o a b 0 (mt2 o a ++ [(a.length : Int)]) (mt2 o b ++ [(b.length : Int)]) 0 0 0 []
theorem zjL {o a b : List Str} (ha : a.length ≤ 1000) (hb : b.length ≤ 1000) {i x y io ia ib : Int} {n : Nat} {out : List Part} (h : PB n out) : PB (n + 2) (zey o a b i x y io ia ib out) := by
  have h1 := zlj h (zig (o := zb2 o io i) (Nat.le_trans (zdI a ia x) ha) (Nat.le_trans (zdI b ib y) hb))
  unfold zey
  split
  · exact zlj h1 (by simp [lnP])
  · exact h1.mono (by omega)
theorem zjc {o a b : List Str} (ha : a.length ≤ 1000) (hb : b.length ≤ 1000) : ∀ (ma mb : List Int) (i io ia ib : Int) (n : Nat) (out : List Part), PB n out → PB (n + 2 * ma.length) (zb5 o a b i ma mb io ia ib out)
  | [], mb, i, io, ia, ib, n, out, h => by rw [zb5.eq_def]; exact h.mono (by omega)
  | x :: ma, [], i, io, ia, ib, n, out, h => by rw [zb5.eq_def]; exact h.mono (by omega)
  | x :: ma, y :: mb, i, io, ia, ib, n, out, h => by
    rw [zb5]
    cases (decide (x < 0) || decide (y < 0)) with
    | true => exact (zjc ha hb ma mb _ _ _ _ n out h).mono (by simp; omega)
    | false => exact (zjc ha hb ma mb _ _ _ _ (n + 2) _ (zjL ha hb h)).mono (by simp; omega)
theorem zlk {l : List Int} {i : Nat} {x : Int} (h : l[i]? = some x) : l.drop i = x :: l.drop (i + 1) := by
  have hi := zau h
  rw [List.drop_eq_getElem_cons hi]
  rw [List.getElem?_eq_getElem hi] at h
  rw [Option.some.inj h]
theorem zjM {o a b : List Str} (ho : o.length ≤ 1000) (ha : a.length ≤ 1000) (hb : b.length ≤ 1000) {ma mb : List Int} (hla : ma.length = o.length + 1) (hlb : mb.length = o.length + 1) :
    ∀ (n i m : Nat) (io ia ib : Int) (out : List Part), i + n = o.length + 1 → n < m → Asc ((a.length : Int) + 1) ia (ma.drop i) → Asc ((b.length : Int) + 1) ib (mb.drop i) → 0 ≤ io → io ≤ i → 0 ≤ ia → 0 ≤ ib → PB (2 * i) out →
      zdV o a b ma mb (fun y45 _ _ _ _ => some y45) m out io ia ib (i : Int) = some (zb5 o a b i (ma.drop i) (mb.drop i) io ia ib out)
  | n, i, 0, _, _, _, _, _, hm, _, _, _, _, _, _, _ => by omega
  | 0, i, m + 1, io, ia, ib, out, hi, _, _, _, _, _, _, _, _ => by
    simp only [zdV]
    rw [decide_eq_false (by omega), cond_false, List.drop_eq_nil_of_le (by omega), zb5.eq_def]
  | n + 1, i, m + 1, io, ia, ib, out, hi, hm, hA, hB, h0, h1, h2, h3, hP => by
    obtain ⟨x, hx⟩ : ∃ x, ma[i]? = some x := ⟨_, List.getElem?_eq_getElem (by omega)⟩
    obtain ⟨y, hy⟩ : ∃ y, mb[i]? = some y := ⟨_, List.getElem?_eq_getElem (by omega)⟩
    rw [zlk hx] at hA ⊢
    rw [zlk hy] at hB ⊢
    have ei : w64 ((i : Int) + 1) = ((i + 1 : Nat) : Int) := by rw [zai (by omega) (by omega)]; omega
    have ei' : (i : Int) + 1 = ((i + 1 : Nat) : Int) := by omega
    rw [ei'] at ei
    have dn : decide ((-1 : Int) < 0) = true := rfl
    have hstay : ∀ (hA' : Asc ((a.length : Int) + 1) ia (ma.drop (i + 1))) (hB' : Asc ((b.length : Int) + 1) ib (mb.drop (i + 1))), zdV o a b ma mb (fun y45 _ _ _ _ => some y45) m out io ia ib ((i + 1 : Nat) : Int) = some (zb5 o a b ((i + 1 : Nat) : Int) (ma.drop (i + 1)) (mb.drop (i + 1)) io ia ib out) :=
      fun hA' hB' => zjM ho ha hb hla hlb n (i + 1) m io ia ib out (by omega) (by omega) hA' hB' h0 (by omega) h2 h3 (hP.mono (by omega))
    rw [zb5]
    simp only [zdV, jn, zaf hx, zaf hy, Option.bind_some, ei, ei', hla]
    rw [decide_eq_true (show (i : Int) < ((o.length + 1 : Nat) : Int) by omega), cond_true]
    rcases hA with ⟨rfl, hA⟩ | ⟨ha1, ha2, hA⟩
    · rcases hB with ⟨rfl, hB⟩ | ⟨hb1, hb2, hB⟩
      · simp only [dn, cond_true, Bool.true_or]; exact hstay hA hB
      · simp only [dn, cond_true, Bool.true_or]; exact hstay hA (hB.mono (by omega))
    rcases hB with ⟨rfl, hB⟩ | ⟨hb1, hb2, hB⟩
    · rw [decide_eq_false (show ¬ x < 0 by omega), cond_false]
      simp only [dn, cond_true, Bool.false_or]
      exact hstay (hA.mono (by omega)) hB
    rw [decide_eq_false (show ¬ x < 0 by omega), decide_eq_false (show ¬ y < 0 by omega)]
    simp only [cond_false, Bool.or_false]
    have ex : w64 (x + 1) = x + 1 := zai (by omega) (by omega)
    have ey : w64 (y + 1) = y + 1 := zai (by omega) (by omega)
    have c1 := zdI o io i
    have c2 := zdI a ia x
    have c3 := zdI b ib y
    have hP1 := zlj hP (zig (o := zb2 o io i) (Nat.le_trans c2 ha) (Nat.le_trans c3 hb))
    have hS := zjL (o := o) ha hb (i := i) (x := x) (y := y) (io := io) (ia := ia) (ib := ib) hP
    have hfin := zjM ho ha hb hla hlb n (i + 1) m ((i + 1 : Nat) : Int) (x + 1) (y + 1) (zey o a b i x y io ia ib out) (by omega) (by omega) hA hB (by omega) (by omega) (by omega) (by omega) (hS.mono (by omega))
    rw [zgn h0 h1 (by omega), Option.bind_some, zgn h2 ha1 (by omega), Option.bind_some, zgn h3 hb1 (by omega), Option.bind_some,
      show ((o.take ((i : Int)).toNat).drop io.toNat) = zb2 o io i from rfl, show ((a.take x.toNat).drop ia.toNat) = zb2 a ia x from rfl, show ((b.take y.toNat).drop ib.toNat) = zb2 b ib y from rfl,
      zpa (by omega) (by omega) (by omega), Option.bind_some]
    rw [show (⟨(zew (zb2 o io i) (zb2 a ia x) (zb2 b ib y)).Clash, (zew (zb2 o io i) (zb2 a ia x) (zb2 b ib y)).Lines, (zew (zb2 o io i) (zb2 a ia x) (zb2 b ib y)).Old, (zew (zb2 o io i) (zb2 a ia x) (zb2 b ib y)).One, (zew (zb2 o io i) (zb2 a ia x) (zb2 b ib y)).Two⟩ : Part) = zew (zb2 o io i) (zb2 a ia x) (zb2 b ib y) from rfl,
      znz hP (by omega) (zig (Nat.le_trans c2 ha) (Nat.le_trans c3 hb)), Option.bind_some]
    by_cases hio : i < o.length
    · have hs : o[i]? = some o[i] := List.getElem?_eq_getElem hio
      rw [decide_eq_true (by omega), cond_true, zaf hs, Option.bind_some, show (⟨false, [o[i]], [], [], []⟩ : Part) = lnP [o[i]] from rfl, znz hP1 (by omega) (by simp [lnP]), Option.bind_some, ex, ey]
      have hm : zey o a b i x y io ia ib out = zkm (zkm out (zew (zb2 o io i) (zb2 a ia x) (zb2 b ib y))) (lnP [o[i]]) := by
        unfold zey
        rw [show ((i : Int)).toNat = i by omega, hs]
      rw [← hm]
      exact hfin
    · rw [decide_eq_false (by omega), cond_false, ex, ey]
      have hm : zey o a b i x y io ia ib out = zkm out (zew (zb2 o io i) (zb2 a ia x) (zb2 b ib y)) := by
        unfold zey
        rw [show ((i : Int)).toNat = i by omega, List.getElem?_eq_none (by omega)]
      rw [← hm]
      exact hfin
theorem zhH (o a : List Str) : Asc ((a.length : Int) + 1) 0 (mt2 o a ++ [(a.length : Int)]) ∧ (mt2 o a ++ [(a.length : Int)]).length = o.length + 1 := by
  have h := zfD o a
  exact ⟨Asc.snoc (by omega) (by omega) h.1, by simp [h.2]⟩
theorem zsr {o a b : List Str} (ho : o.length ≤ 1000) (ha : a.length ≤ 1000) (hb : b.length ≤ 1000) : zjr o a b = some (zbw o a b) := by
  obtain ⟨a1, a2⟩ := zhH o a
  obtain ⟨b1, b2⟩ := zhH o b
  have l1 := (zfD o a).2
  have l2 := (zfD o b).2
  unfold zjr
  rw [zjb ho ha, Option.bind_some, zm7 (by omega), Option.bind_some, zjb ho hb, Option.bind_some, zm7 (by omega), Option.bind_some]
  simp only [jn]
  have := zjM ho ha hb a2 b2 (o.length + 1) 0 ((((mt2 o a ++ [(a.length : Int)]).length : Int) - 0).toNat + 1) 0 0 0 [] (by omega) (by omega) a1 b1 (by omega) (by omega) (by omega) (by omega) ⟨by simp, by simp⟩
  exact this
theorem zz3 {o : List Str} {i : Nat} {s : Str} (h : o[i]? = some s) : slM o (i : Int) ((i + 1 : Nat) : Int) = some [s] := by
  have hi := zau h
  rw [zgn (by omega) (by omega) (by omega)]
  congr 1
  rw [show (((i + 1 : Nat) : Int)).toNat = i + 1 by omega, show ((i : Int)).toNat = i by omega, List.drop_take, show i + 1 - i = 1 by omega, List.drop_eq_getElem_cons hi]
  rw [List.getElem?_eq_getElem hi] at h
  simp [Option.some.inj h]
theorem zjN {o a b : List Str} (ho : o.length ≤ 1000) (ha : a.length ≤ 1000) (hb : b.length ≤ 1000) {ma mb : List Int} (hla : ma.length = o.length + 1) (hlb : mb.length = o.length + 1) :
    ∀ (n i m : Nat) (io ia ib : Int) (out : List Part), i + n = o.length + 1 → n < m → Asc ((a.length : Int) + 1) ia (ma.drop i) → Asc ((b.length : Int) + 1) ib (mb.drop i) → 0 ≤ io → io ≤ i → 0 ≤ ia → 0 ≤ ib → PB (2 * i) out →
      zbi o a b ma mb (fun _ _ _ _ y49 => some y49) m io ia ib (i : Int) out = some (zb5 o a b i (ma.drop i) (mb.drop i) io ia ib out)
  | n, i, 0, _, _, _, _, _, hm, _, _, _, _, _, _, _ => by omega
  | 0, i, m + 1, io, ia, ib, out, hi, _, _, _, _, _, _, _, _ => by
    simp only [zbi]
    rw [decide_eq_false (by omega), cond_false, List.drop_eq_nil_of_le (by omega), zb5.eq_def]
  | n + 1, i, m + 1, io, ia, ib, out, hi, hm, hA, hB, h0, h1, h2, h3, hP => by
    obtain ⟨x, hx⟩ : ∃ x, ma[i]? = some x := ⟨_, List.getElem?_eq_getElem (by omega)⟩
    obtain ⟨y, hy⟩ : ∃ y, mb[i]? = some y := ⟨_, List.getElem?_eq_getElem (by omega)⟩
    rw [zlk hx] at hA ⊢
    rw [zlk hy] at hB ⊢
    have ei : w64 ((i : Int) + 1) = ((i + 1 : Nat) : Int) := by rw [zai (by omega) (by omega)]; omega
    have ei' : (i : Int) + 1 = ((i + 1 : Nat) : Int) := by omega
    rw [ei'] at ei
    have dn : decide ((-1 : Int) < 0) = true := rfl
    have hstay : ∀ (hA' : Asc ((a.length : Int) + 1) ia (ma.drop (i + 1))) (hB' : Asc ((b.length : Int) + 1) ib (mb.drop (i + 1))), zbi o a b ma mb (fun _ _ _ _ y49 => some y49) m io ia ib ((i + 1 : Nat) : Int) out = some (zb5 o a b ((i + 1 : Nat) : Int) (ma.drop (i + 1)) (mb.drop (i + 1)) io ia ib out) :=
      fun hA' hB' => zjN ho ha hb hla hlb n (i + 1) m io ia ib out (by omega) (by omega) hA' hB' h0 (by omega) h2 h3 (hP.mono (by omega))
    rw [zb5]
    simp only [zbi, jn, zaf hx, zaf hy, Option.bind_some, ei, ei', hla]
    rw [decide_eq_true (show (i : Int) < ((o.length + 1 : Nat) : Int) by omega), cond_true]
    rcases hA with ⟨rfl, hA⟩ | ⟨ha1, ha2, hA⟩
    · rcases hB with ⟨rfl, hB⟩ | ⟨hb1, hb2, hB⟩
      · simp only [dn, cond_true, Bool.true_or]; exact hstay hA hB
      · simp only [dn, cond_true, Bool.true_or]; exact hstay hA (hB.mono (by omega))
    rcases hB with ⟨rfl, hB⟩ | ⟨hb1, hb2, hB⟩
    · rw [decide_eq_false (show ¬ x < 0 by omega), cond_false]
      simp only [dn, cond_true, Bool.false_or]
      exact hstay (hA.mono (by omega)) hB
    rw [decide_eq_false (show ¬ x < 0 by omega), decide_eq_false (show ¬ y < 0 by omega)]
    simp only [cond_false, Bool.or_false]
    have ex : w64 (x + 1) = x + 1 := zai (by omega) (by omega)
    have ey : w64 (y + 1) = y + 1 := zai (by omega) (by omega)
    have c1 := zdI o io i
    have c2 := zdI a ia x
    have c3 := zdI b ib y
    have hP1 := zlj hP (zig (o := zb2 o io i) (Nat.le_trans c2 ha) (Nat.le_trans c3 hb))
    have hS := zjL (o := o) ha hb (i := i) (x := x) (y := y) (io := io) (ia := ia) (ib := ib) hP
    have hfin := zjN ho ha hb hla hlb n (i + 1) m ((i + 1 : Nat) : Int) (x + 1) (y + 1) (zey o a b i x y io ia ib out) (by omega) (by omega) hA hB (by omega) (by omega) (by omega) (by omega) (hS.mono (by omega))
    rw [zgn h0 h1 (by omega), Option.bind_some, zgn h2 ha1 (by omega), Option.bind_some, zgn h3 hb1 (by omega), Option.bind_some,
      show ((o.take ((i : Int)).toNat).drop io.toNat) = zb2 o io i from rfl, show ((a.take x.toNat).drop ia.toNat) = zb2 a ia x from rfl, show ((b.take y.toNat).drop ib.toNat) = zb2 b ib y from rfl,
      zfr (show (zb2 a ia x).length ≤ maxi by unfold maxi; omega), Option.bind_some]
    -- what follows, of any out
    have hrest : ∀ q, q = zkm out (zew (zb2 o io i) (zb2 a ia x) (zb2 b ib y)) →
        (bif decide ((i : Int) < (o.length : Int)) then (slM o (i : Int) ((i + 1 : Nat) : Int)).bind fun q154 => (zca q154 q).bind fun z158 => zbi o a b ma mb (fun _ _ _ _ y49 => some y49) m ((i + 1 : Nat) : Int) (w64 (x + 1)) (w64 (y + 1)) ((i + 1 : Nat) : Int) z158
        else zbi o a b ma mb (fun _ _ _ _ y49 => some y49) m ((i + 1 : Nat) : Int) (w64 (x + 1)) (w64 (y + 1)) ((i + 1 : Nat) : Int) q) =
        some (zb5 o a b ((i + 1 : Nat) : Int) (ma.drop (i + 1)) (mb.drop (i + 1)) ((i + 1 : Nat) : Int) (x + 1) (y + 1) (zey o a b i x y io ia ib out)) := by
      rintro q rfl
      rw [ex, ey]
      by_cases hio : i < o.length
      · have hs : o[i]? = some o[i] := List.getElem?_eq_getElem hio
        rw [decide_eq_true (by omega), cond_true, zz3 hs, Option.bind_some, c1_eq hP1 (by omega) (by simp), Option.bind_some]
        have hm : zey o a b i x y io ia ib out = zkm (zkm out (zew (zb2 o io i) (zb2 a ia x) (zb2 b ib y))) (lnP [o[i]]) := by
          unfold zey
          rw [show ((i : Int)).toNat = i by omega, hs]
        rw [← hm]
        exact hfin
      · rw [decide_eq_false (by omega), cond_false]
        have hm : zey o a b i x y io ia ib out = zkm out (zew (zb2 o io i) (zb2 a ia x) (zb2 b ib y)) := by
          unfold zey
          rw [show ((i : Int)).toNat = i by omega, List.getElem?_eq_none (by omega)]
        rw [← hm]
        exact hfin
    have hclash : apM out [(⟨true, [], zb2 o io i, zb2 a ia x, zb2 b ib y⟩ : Part)] = some (out ++ [⟨true, [], zb2 o io i, zb2 a ia x, zb2 b ib y⟩]) := zhy (by have := hP.1; simp [lim]; omega)
    cases e1 : zb2 a ia x == zb2 o io i with
    | true =>
      rw [cond_true, cond_true, c1_eq hP (by omega) (by omega), Option.bind_some]
      exact hrest _ (by simp [zew, e1])
    | false =>
      rw [cond_false, zfr (show (zb2 a ia x).length ≤ maxi by unfold maxi; omega), Option.bind_some]
      cases e2 : zb2 a ia x == zb2 b ib y with
      | true =>
        rw [cond_true, c1_eq hP (by omega) (by omega), Option.bind_some]
        exact hrest _ (by simp [zew, e1, e2])
      | false =>
        rw [cond_false, zfr (show (zb2 b ib y).length ≤ maxi by unfold maxi; omega), Option.bind_some]
        cases e3 : zb2 b ib y == zb2 o io i with
        | true =>
          rw [cond_true, c1_eq hP (by omega) (by omega), Option.bind_some]
          exact hrest _ (by simp [zew, e1, e2, e3])
        | false =>
          rw [cond_false, za8 (by omega), Option.bind_some, za8 (by omega), Option.bind_some, za8 (by omega), Option.bind_some, hclash, Option.bind_some]
          exact hrest _ (by simp [zew, e1, e2, e3, zn4])
theorem zn5 {o a b : List Str} (ho : o.length ≤ 1000) (ha : a.length ≤ 1000) (hb : b.length ≤ 1000) : zf4 o a b = some (zbw o a b) := by
  obtain ⟨a1, a2⟩ := zhH o a
  obtain ⟨b1, b2⟩ := zhH o b
  have l1 := (zfD o a).2
  have l2 := (zfD o b).2
  unfold zf4
  rw [zi9 ho ha, Option.bind_some, zm7 (by omega), Option.bind_some, zi9 ho hb, Option.bind_some, zm7 (by omega), Option.bind_some]
  simp only [jn]
  exact zjN ho ha hb a2 b2 (o.length + 1) 0 ((((mt2 o a ++ [(a.length : Int)]).length : Int) - 0).toNat + 1) 0 0 0 [] (by omega) (by omega) a1 b1 (by omega) (by omega) (by omega) (by omega) ⟨by simp, by simp⟩
end Go.Vm
namespace Go.Sx
open Go
end Go.Sx
namespace Go.Vm
open Go Go.Sx
set_option linter.unusedSimpArgs false
set_option linter.unusedVariables false
section
variable {o a b : List Str} {Q : Part → Prop}
theorem znA {out : List Part} {p : Part} (h3 : ∀ q p : Part, Q q → Q p → q.Clash = false → p.Clash = false → Q ⟨q.Clash, q.Lines ++ p.Lines, q.Old, q.One, q.Two⟩) (h : ∀ q ∈ out, Q q) (hp : Q p) : ∀ q ∈ zkm out p, Q q := by
  have happ : ∀ q ∈ out ++ [p], Q q := fun q hq => by
    rcases List.mem_append.1 hq with h1 | h1
    · exact h q h1
    · rw [List.mem_singleton] at h1; rw [h1]; exact hp
  unfold zkm
  cases (!p.Clash && p.Lines.length == 0) with
  | true => exact h
  | false =>
    rw [cond_false]
    split
    · rename_i q hq
      cases hc : (!p.Clash && !q.Clash) with
      | false => exact happ
      | true =>
        simp only [Bool.and_eq_true, Bool.not_eq_true'] at hc
        rw [cond_true]
        intro r hr
        rcases List.mem_or_eq_of_mem_set hr with h1 | h1
        · exact h r h1
        · rw [h1]; exact h3 q p (h q (List.mem_of_getElem? hq)) hp hc.2 hc.1
    · exact happ
theorem ziD (h1 : ∀ l h l' h' l'' h'', Q (zew (zb2 o l h) (zb2 a l' h') (zb2 b l'' h''))) (h2 : ∀ s ∈ o, Q (lnP [s]))
    (h3 : ∀ q p : Part, Q q → Q p → q.Clash = false → p.Clash = false → Q ⟨q.Clash, q.Lines ++ p.Lines, q.Old, q.One, q.Two⟩) : ∀ (ma mb : List Int) (i io ia ib : Int) (out : List Part), (∀ q ∈ out, Q q) → ∀ q ∈ zb5 o a b i ma mb io ia ib out, Q q
  | [], mb, i, io, ia, ib, out, h => by rw [zb5.eq_def]; exact h
  | x :: ma, [], i, io, ia, ib, out, h => by rw [zb5.eq_def]; exact h
  | x :: ma, y :: mb, i, io, ia, ib, out, h => by
    rw [zb5]
    cases (decide (x < 0) || decide (y < 0)) with
    | true => exact ziD h1 h2 h3 ma mb _ _ _ _ out h
    | false =>
      refine ziD h1 h2 h3 ma mb _ _ _ _ _ ?_
      have hp := znA h3 h (h1 io i ia x ib y)
      unfold zey
      split
      · rename_i s hs
        exact znA h3 hp (h2 s (List.mem_of_getElem? hs))
      · exact hp
theorem zn6 (h1 : ∀ l h l' h' l'' h'', Q (zew (zb2 o l h) (zb2 a l' h') (zb2 b l'' h''))) (h2 : ∀ s ∈ o, Q (lnP [s]))
    (h3 : ∀ q p : Part, Q q → Q p → q.Clash = false → p.Clash = false → Q ⟨q.Clash, q.Lines ++ p.Lines, q.Old, q.One, q.Two⟩) : ∀ q ∈ zbw o a b, Q q :=
  ziD h1 h2 h3 _ _ _ _ _ _ [] (by simp)
theorem zih {α : Type} {xs : List α} {l h : Int} {x : α} (hx : x ∈ zb2 xs l h) : x ∈ xs := List.mem_of_mem_take (List.mem_of_mem_drop hx)
theorem zlV {P : Str → Prop} (ho : ∀ s ∈ o, P s) (ha : ∀ s ∈ a, P s) (hb : ∀ s ∈ b, P s) : ∀ q ∈ zbw o a b, (∀ s ∈ q.Lines, P s) ∧ (∀ s ∈ q.Old, P s) ∧ (∀ s ∈ q.One, P s) ∧ (∀ s ∈ q.Two, P s) ∧ q.Old.length ≤ o.length ∧ q.One.length ≤ a.length ∧ q.Two.length ≤ b.length := by
  refine zn6 (fun l h l' h' l'' h'' => ?_) (fun s hs => ?_) (fun q p hq hp _ _ => ?_)
  · have c1 := zdI o l h
    have c2 := zdI a l' h'
    have c3 := zdI b l'' h''
    unfold zew lnP
    cases (zb2 a l' h' == zb2 o l h || zb2 a l' h' == zb2 b l'' h'') with
    | true => exact ⟨fun s hs => hb s (zih hs), by simp, by simp, by simp, by simp, by simp, by simp⟩
    | false =>
      rw [cond_false]
      cases (zb2 b l'' h'' == zb2 o l h) with
      | true => exact ⟨fun s hs => ha s (zih hs), by simp, by simp, by simp, by simp, by simp, by simp⟩
      | false => exact ⟨by simp, fun s hs => ho s (zih hs), fun s hs => ha s (zih hs), fun s hs => hb s (zih hs), c1, c2, c3⟩
  · exact ⟨by simpa [lnP] using ho s hs, by simp [lnP], by simp [lnP], by simp [lnP], by simp [lnP], by simp [lnP], by simp [lnP]⟩
  · exact ⟨fun s hs => (List.mem_append.1 hs).elim (hq.1 s) (hp.1 s), hq.2⟩
theorem zn7 (ho : o.length ≤ 1000) (ha : a.length ≤ 1000) (hb : b.length ≤ 1000) : PB (2 * (o.length + 1)) (zbw o a b) := by
  have := zjc (o := o) ha hb (mt2 o a ++ [(a.length : Int)]) (mt2 o b ++ [(b.length : Int)]) 0 0 0 0 0 [] ⟨by simp, by simp⟩
  rw [(zhH o a).2] at this
  exact this.mono (by omega)
end
section
variable {xs : List Memo} {o a b : List Str}
def okT (t : List Str) : List Str × Bool := bif zaB t then (t, true) else ([], false)
def ztw (i : Nat) (s : List Str) : Prop := s.length ≤ 22000 * i ∧ ∀ x ∈ s, zdz x = true
theorem zcF {s : List Str} (h : s.length ≤ 1000000) (hl : ∀ x ∈ s, zdz x = true) : Bk.fit s := ⟨by unfold maxi; omega, fun x hx => by have := zie (hl x hx); show x.length ≤ maxi; unfold maxi; omega⟩
theorem apT {s t : List Str} (h : s.length ≤ 1000000) (h' : t.length ≤ 1000000) : apM s t = some (s ++ t) := zhy (by simp [lim]; omega)
theorem zkS (hto : zaB o = true) (hta : zaB a = true) (htb : zaB b = true) : (zbw o a b).length ≤ 22 ∧ ∀ p ∈ zbw o a b, p.Lines.length ≤ 22000 ∧ (∀ x ∈ p.Lines, zdz x = true) ∧ zaB p.Old = true ∧ zaB p.One = true ∧ zaB p.Two = true := by
  have lo := zar hto
  have la := zar hta
  have lb := zar htb
  have hP := zn7 (o := o) (a := a) (b := b) (by omega) (by omega) (by omega)
  refine ⟨Nat.le_trans hP.1 (by omega), fun p hp => ?_⟩
  obtain ⟨h1, h2, h3, h4, h5, h6, h7⟩ := zlV (P := fun s => zdz s = true) (zaX hto) (zaX hta) (zaX htb) p hp
  have hl := hP.2 p hp
  have mk : ∀ t : List Str, t.length ≤ 10 → (∀ s ∈ t, zdz s = true) → zaB t = true := fun t h1 h2 => by
    unfold zaB
    rw [decide_eq_false (by omega)]
    simp only [Bool.not_false, Bool.true_and, List.all_eq_true]
    exact h2
  exact ⟨by omega, h1, mk _ (by omega) h2, mk _ (by omega) h3, mk _ (by omega) h4⟩
end
def LB (n : Nat) (t : List Str) : Prop := t.length ≤ n ∧ ∀ s ∈ t, s.length ≤ 100
theorem LB.fit {n : Nat} {t : List Str} (h : LB n t) (hn : n ≤ 1000000) : Bk.fit t := ⟨by have := h.1; unfold maxi; omega, fun s hs => by have := h.2 s hs; show s.length ≤ maxi; unfold maxi; omega⟩
theorem LB.mono {n m : Nat} {t : List Str} (h : LB n t) (hm : n ≤ m) : LB m t := ⟨Nat.le_trans h.1 hm, h.2⟩
theorem zhh {α : Type} {f : α → Nat} {c : Nat} : ∀ {t : List α}, (∀ s ∈ t, f s ≤ c) → sumB f t ≤ c * t.length
  | [], _ => by simp [sumB]
  | x :: t, h => by
    have h1 := h x (by simp)
    have h2 := zhh (t := t) (fun s hs => h s (by simp [hs]))
    simp only [sumB, List.length_cons, Nat.mul_add, Nat.mul_one]
    omega
theorem LB.bulk {n : Nat} {t : List Str} (h : LB n t) : Bk.bulk t ≤ 101 * n := by
  have h1 : sumB Bk.bulk t ≤ 100 * t.length := zhh (f := fun s : Str => s.length) (c := 100) (fun s hs => h.2 s hs)
  have := h.1
  rw [ztB]
  omega
section
variable {r : l30Rd} {p : Int}
end
section
variable {o a b : List Str} {xs : List Memo}
def zqC (l : List Part) : List Part := l.filter (·.Clash)
end
open Go Go.Sx Go.Proofs
theorem za6 (a b : Str) : Op.bytesLess a b = decide (a < b) := bytesLess_eq a b
theorem zlW (a b : Str) : (decide (a ≤ b) || decide (b ≤ a)) = true := by
  rcases List.le_total a b with h | h <;> simp [h]
theorem zlX (a b c : Str) : decide (a ≤ b) = true → decide (b ≤ c) = true → decide (a ≤ c) = true := by
  simp only [decide_eq_true_eq]
  exact List.le_trans
theorem zan (a : Str) : ¬ a < a := List.lt_irrefl a
theorem zbb {a b c : Str} : a < b → b < c → a < c := List.lt_trans
theorem zbX {a b : Str} (h : a ≤ b) (hn : a ≠ b) : a < b := by
  rcases Decidable.em (a < b) with h1 | h1
  · exact h1
  · exact absurd (List.le_antisymm h (List.not_lt.1 h1)) hn
theorem zii {a b : Str} : ¬ a < b ↔ b ≤ a := List.not_lt
def Asd (xs : List Str) : Prop := xs.Pairwise (· < ·)
theorem Asd.ext : ∀ {xs ys : List Str}, Asd xs → Asd ys → (∀ a, a ∈ xs ↔ a ∈ ys) → xs = ys
  | [], [], _, _, _ => rfl
  | [], y :: ys, _, _, h => by have := (h y).2 (by simp); simp at this
  | x :: xs, [], _, _, h => by have := (h x).1 (by simp); simp at this
  | x :: xs, y :: ys, hx, hy, h => by
    have hx' := List.pairwise_cons.1 hx
    have hy' := List.pairwise_cons.1 hy
    have e : x = y := by
      rcases List.mem_cons.1 ((h x).1 (by simp)) with e | hm
      · exact e
      · rcases List.mem_cons.1 ((h y).2 (by simp)) with e | hm2
        · exact e.symm
        · exact absurd (zbb (hy'.1 x hm) (hx'.1 y hm2)) (zan y)
    subst e
    have ht : ∀ a, a ∈ xs ↔ a ∈ ys := fun a => by
      constructor
      · intro ha
        rcases List.mem_cons.1 ((h a).1 (List.mem_cons_of_mem _ ha)) with e | hm
        · exact absurd (by rw [e] at ha; exact hx'.1 x ha) (zan x)
        · exact hm
      · intro ha
        rcases List.mem_cons.1 ((h a).2 (List.mem_cons_of_mem _ ha)) with e | hm
        · exact absurd (by rw [e] at ha; exact hy'.1 x ha) (zan x)
        · exact hm
    rw [Asd.ext hx'.2 hy'.2 ht]
theorem znd (l : List Str) : (zcS l).Pairwise (· ≤ ·) := by
  have := List.pairwise_mergeSort (le := fun x y : Str => decide (x ≤ y)) zlX zlW l
  exact this.imp (by simp)
theorem zjF {l : List Str} {a : Str} : a ∈ zcS l ↔ a ∈ l := List.mem_mergeSort
theorem zjd : ∀ (l : List Str) (p : Option Str) (a : Str), a ∈ zc6 p l ∨ some a = p ↔ a ∈ l ∨ some a = p
  | [], p, a => by simp [zc6]
  | x :: l, p, a => by
    have ih := zjd l (some x) a
    unfold zc6
    by_cases hp : p = some x
    · rw [if_pos hp, hp]
      rw [ih]
      simp only [List.mem_cons, Option.some.injEq]
      constructor
      · rintro (h | h)
        · exact .inl (.inr h)
        · exact .inr h
      · rintro ((h | h) | h)
        · exact .inr h
        · exact .inl h
        · exact .inr h
    · rw [if_neg hp]
      simp only [List.mem_cons, Option.some.injEq] at ih ⊢
      constructor
      · rintro ((h | h) | h)
        · exact .inl (.inl h)
        · rcases ih.1 (.inl h) with h2 | h2
          · exact .inl (.inr h2)
          · exact .inl (.inl h2)
        · exact .inr h
      · rintro ((h | h) | h)
        · exact .inl (.inl h)
        · rcases ih.2 (.inl h) with h2 | h2
          · exact .inl (.inr h2)
          · exact .inl (.inl h2)
        · exact .inr h
theorem ziE {l : List Str} {a : Str} : a ∈ zlI l ↔ a ∈ l := by
  have := zjd l none a
  simpa [zlI] using this
theorem zgp : ∀ (l : List Str) (p : Option Str), l.Pairwise (· ≤ ·) → (∀ q, p = some q → ∀ a ∈ l, q ≤ a) → Asd (zc6 p l) ∧ ∀ q, p = some q → ∀ a ∈ zc6 p l, q < a
  | [], p, _, _ => by simp [zc6, Asd]
  | x :: l, p, h, hp => by
    have h' := List.pairwise_cons.1 h
    obtain ⟨i1, i2⟩ := zgp l (some x) h'.2 (fun q hq a ha => by cases hq; exact h'.1 a ha)
    unfold zc6
    by_cases hpx : p = some x
    · rw [if_pos hpx]
      exact ⟨i1, fun q hq a ha => by rw [hpx] at hq; exact i2 q hq a ha⟩
    · rw [if_neg hpx]
      refine ⟨List.pairwise_cons.2 ⟨fun a ha => i2 x rfl a ha, i1⟩, fun q hq a ha => ?_⟩
      have hqx : q < x := zbX (hp q hq x (by simp)) (fun e => hpx (by rw [hq, e]))
      rcases List.mem_cons.1 ha with e | e
      · rw [e]; exact hqx
      · exact zbb hqx (i2 x rfl a e)
def zgQ (xs : List Str) (s : Str) : List Str := zlI (zcS (xs ++ [s]))
theorem zdx (xs : List Str) (s : Str) : Asd (zgQ xs s) := (zgp _ none (znd _) (fun q hq => by cases hq)).1
theorem insS_mem {xs : List Str} {s a : Str} : a ∈ zgQ xs s ↔ a ∈ xs ∨ a = s := by
  unfold zgQ
  rw [ziE, zjF, List.mem_append, List.mem_singleton]
theorem zgU : ∀ (zs : List Str) (p : Option Str), (zc6 p zs).length ≤ zs.length
  | [], p => by simp [zc6]
  | x :: l, p => by
    have := zgU l (some x)
    unfold zc6
    split <;> simp <;> omega
theorem zdW (xs : List Str) (s : Str) : (zgQ xs s).length ≤ xs.length + 1 := by
  have := zgU (zcS (xs ++ [s])) none
  unfold zgQ zlI
  have h2 : (zcS (xs ++ [s])).length = (xs ++ [s]).length := List.length_mergeSort _
  rw [h2] at this
  simpa using this
def zic (c : UInt8) : Bool := (decide (97 ≤ (c.toNat : Int)) && decide ((c.toNat : Int) ≤ 122)) || (decide (48 ≤ (c.toNat : Int)) && decide ((c.toNat : Int) ≤ 57))
def zaM (s : Str) : Bool := (decide (1 ≤ (s.length : Int)) && decide ((s.length : Int) ≤ 6)) && s.all zic
theorem zjO (c : UInt8) : zeg c = some (zic c) := by
  unfold zeg zic
  simp only [jn]
  cases decide (97 ≤ (c.toNat : Int)) <;> cases decide ((c.toNat : Int) ≤ 122) <;> cases decide (48 ≤ (c.toNat : Int)) <;> cases decide ((c.toNat : Int) ≤ 57) <;> rfl
theorem zfU (a b c : Int) : zeF a b c = some (decide (b ≤ a) && decide (a ≤ c)) := by
  unfold zeF
  simp only [jn]
  cases decide (b ≤ a) <;> rfl
theorem zgV (a b c : Int) : zeP a b c = some (decide (b ≤ a) && decide (a ≤ c)) := by
  unfold zeP
  simp only [jn]
  cases decide (b ≤ a) <;> rfl
theorem zcG {s : Str} (h : s.length ≤ maxi) : zb0 s = some (zaM s) := by
  unfold zb0 zaM
  simp only [jn, zak, zfU, Option.bind_some]
  cases (decide (1 ≤ (s.length : Int)) && decide ((s.length : Int) ≤ 6))
  case false => rfl
  simp only [Bool.not_true, cond_false, Bool.true_and]
  rw [zbg (α := UInt8) (xs := s) (p := zic) (r0 := some false) (Z := some true) (f := fun m i => zck s (fun _ _ => some true) m false i) (fun m i x hx => by
    simp only [zck, jn, zal hx, ziB hx, cond_true, Option.bind_some, zac (zau hx) h, zjO]
    cases zic x <;> rfl) (fun m => by simp only [zck, zad, cond_false]) (by omega)]
  cases s.all zic <;> rfl
theorem zrx (a b : Int) : decide (a < b) = !decide (b ≤ a) := by
  by_cases h : a < b
  · rw [decide_eq_true h, decide_eq_false (by omega)]; rfl
  · rw [decide_eq_false h, decide_eq_true (by omega)]; rfl
theorem zc4 {s : Str} (h : s.length ≤ maxi) : zcH s = some (zaM s) := by
  unfold zcH zaM
  simp only [jn, zak, zgV, Option.bind_some]
  rw [zbg (α := UInt8) (xs := s) (p := zic) (r0 := some false) (Z := some (decide (1 ≤ (s.length : Int)) && decide ((s.length : Int) ≤ 6))) (f := fun m i => zcg s (fun _ _ => some (decide (1 ≤ (s.length : Int)) && decide ((s.length : Int) ≤ 6))) m false i) (fun m i x hx => by
    simp only [zcg, jn, zal hx, ziB hx, cond_true, Option.bind_some, zac (zau hx) h, zrx, zic]
    cases decide (97 ≤ (x.toNat : Int)) <;> cases decide ((x.toNat : Int) ≤ 122) <;> cases decide (48 ≤ (x.toNat : Int)) <;> cases decide ((x.toNat : Int) ≤ 57) <;> rfl) (fun m => by simp only [zcg, zad, cond_false]) (by omega)]
  cases s.all zic <;> cases (decide (1 ≤ (s.length : Int)) && decide ((s.length : Int) ≤ 6)) <;> rfl
def ahd (s : Str) : List Str → Nat
  | [] => 0
  | x :: xs => bif Op.bytesLess x s then ahd s xs + 1 else 0
theorem zoA (s : Str) : ∀ xs, ahd s xs ≤ xs.length
  | [] => Nat.le_refl _
  | x :: xs => by
    have := zoA s xs
    unfold ahd
    cases Op.bytesLess x s
    · simp
    · simp only [cond_true, List.length_cons]; omega
theorem zkn (s : Str) : ∀ (xs : List Str) x, x ∈ xs.take (ahd s xs) → x < s
  | [], x, h => by simp at h
  | y :: xs, x, h => by
    unfold ahd at h
    cases hy : Op.bytesLess y s with
    | false => rw [hy] at h; simp at h
    | true =>
      rw [hy, cond_true, List.take_succ_cons] at h
      rcases List.mem_cons.1 h with e | e
      · rw [e]; rw [za6] at hy; simpa using hy
      · exact zkn s xs x e
theorem zoB (s : Str) : ∀ (xs : List Str) x, xs[ahd s xs]? = some x → s ≤ x
  | [], x, h => by simp at h
  | y :: xs, x, h => by
    unfold ahd at h
    cases hy : Op.bytesLess y s with
    | false =>
      rw [hy, cond_false] at h
      have e : y = x := by simpa using h
      rw [← e]
      rw [za6] at hy
      exact zii.1 (by simpa using hy)
    | true =>
      rw [hy, cond_true] at h
      exact zoB s xs x (by simpa using h)
theorem zry {xs : List Str} {s : Str} (hl : xs.length ≤ 1000000) {K : Int → Option (List Str)} : ∀ (n i m : Nat), i + n = xs.length → n < m → (∀ j, j < i → ∃ x, xs[j]? = some x ∧ x < s) → zcW xs s K m (i : Int) = K ((i + ahd s (xs.drop i) : Nat) : Int)
  | n, i, 0, _, hm, _ => by omega
  | 0, i, m + 1, hi, _, _ => by
    simp only [zcW, jn]
    rw [decide_eq_false (by omega), cond_false, cond_false, List.drop_eq_nil_of_le (by omega)]
    rfl
  | n + 1, i, m + 1, hi, hm, hall => by
    have hlt : i < xs.length := by omega
    have hx : xs[i]? = some xs[i] := List.getElem?_eq_getElem hlt
    simp only [zcW, jn]
    rw [decide_eq_true (by omega), cond_true, zaf hx, Option.bind_some, List.drop_eq_getElem_cons hlt]
    unfold ahd
    cases hb : Op.bytesLess xs[i] s with
    | false => rw [cond_false, cond_false]; rfl
    | true =>
      rw [cond_true, cond_true, zac hlt (by unfold maxi; omega)]
      rw [zry hl n (i + 1) m (by omega) (by omega) (fun j hj => by
        rcases Nat.lt_or_ge j i with h1 | h1
        · exact hall j h1
        · have : j = i := by omega
          subst this
          exact ⟨_, hx, by rw [za6] at hb; simpa using hb⟩)]
      congr 2
      omega
theorem zi0 {xs : List Str} {s : Str} (hl : xs.length ≤ 1000000) (ha : Asd xs) : zdu xs s = some (zgQ xs s) := by
  unfold zdu
  simp only [jn]
  have h1 := zry (s := s) hl (K := fun y1 => bif decide (y1 < (xs.length : Int)) then (gi xs y1).bind fun u52 => bif u52 == s then some xs else (slM xs 0 y1).bind fun q19 => (apM [] q19).bind fun q24 => (apM q24 [s]).bind fun q31 => (slM xs y1 (xs.length : Int)).bind fun q36 => (apM q31 q36).bind fun q41 => some q41
      else bif false then some xs else (slM xs 0 y1).bind fun q19 => (apM [] q19).bind fun q24 => (apM q24 [s]).bind fun q31 => (slM xs y1 (xs.length : Int)).bind fun q36 => (apM q31 q36).bind fun q41 => some q41) xs.length 0 (xs.length + 1) (by omega) (by omega) (fun j hj => by omega)
  have hk := zoA s xs
  simp only [Nat.zero_add, List.drop_zero] at h1
  refine h1.trans ?_
  -- the list with s in its place
  have hput : (slM xs 0 ((ahd s xs : Nat) : Int)).bind (fun q19 => (apM [] q19).bind fun q24 => (apM q24 [s]).bind fun q31 => (slM xs ((ahd s xs : Nat) : Int) (xs.length : Int)).bind fun q36 => (apM q31 q36).bind fun q41 => some q41) = some (xs.take (ahd s xs) ++ [s] ++ xs.drop (ahd s xs)) := by
    have hlt : (xs.take (ahd s xs)).length ≤ xs.length := by simp; omega
    rw [ziw hk, Option.bind_some, apN (by omega), Option.bind_some, ap1 (by omega), Option.bind_some, zmY hk, Option.bind_some, zhy (by simp [lim]; omega), Option.bind_some]
  have hmem : ∀ a, a ∈ xs.take (ahd s xs) ++ [s] ++ xs.drop (ahd s xs) ↔ a ∈ xs ∨ a = s := fun a => by
    have : a ∈ xs ↔ a ∈ xs.take (ahd s xs) ∨ a ∈ xs.drop (ahd s xs) := by rw [← List.mem_append, List.take_append_drop]
    rw [this]
    simp only [List.mem_append, List.mem_singleton]
    constructor
    · rintro ((h | h) | h)
      · exact .inl (.inl h)
      · exact .inr h
      · exact .inl (.inr h)
    · rintro ((h | h) | h)
      · exact .inl (.inl h)
      · exact .inr h
      · exact .inl (.inr h)
  have hfin : (∀ x ∈ xs.drop (ahd s xs), s < x) → some (xs.take (ahd s xs) ++ [s] ++ xs.drop (ahd s xs)) = some (zgQ xs s) := by
    intro hd
    congr 1
    refine Asd.ext ?_ (zdx _ _) (fun a => by rw [hmem, insS_mem])
    have ha' := ha
    rw [← List.take_append_drop (ahd s xs) xs] at ha'
    obtain ⟨p1, p2, p3⟩ := List.pairwise_append.1 ha'
    refine List.pairwise_append.2 ⟨List.pairwise_append.2 ⟨p1, List.pairwise_singleton _ _, fun a h b hb => ?_⟩, p2, fun a h b hb => ?_⟩
    · rw [List.mem_singleton] at hb; rw [hb]; exact zkn s xs a h
    · rcases List.mem_append.1 h with h2 | h2
      · exact p3 a h2 b hb
      · rw [List.mem_singleton] at h2; rw [h2]; exact hd b hb
  by_cases hlt : ahd s xs < xs.length
  · have hx : xs[ahd s xs]? = some xs[ahd s xs] := List.getElem?_eq_getElem hlt
    have hge := zoB s xs _ hx
    rw [decide_eq_true (by omega), cond_true, zaf hx, Option.bind_some]
    cases he : xs[ahd s xs] == s with
    | true =>
      have e : xs[ahd s xs] = s := by simpa using he
      rw [cond_true]
      congr 1
      exact Asd.ext ha (zdx _ _) (fun a => by
        rw [insS_mem]
        constructor
        · exact .inl
        · rintro (h | h)
          · exact h
          · rw [h, ← e]; exact List.getElem_mem hlt)
    | false =>
      have e : s ≠ xs[ahd s xs] := fun e => by rw [← e] at he; simp at he
      rw [cond_false, hput]
      refine hfin (fun x hx2 => ?_)
      rw [List.drop_eq_getElem_cons hlt] at hx2
      have hs1 : s < xs[ahd s xs] := zbX hge e
      rcases List.mem_cons.1 hx2 with h2 | h2
      · rw [h2]; exact hs1
      · have hp : Asd (xs.drop (ahd s xs)) := List.Pairwise.sublist (List.drop_sublist _ _) ha
        rw [List.drop_eq_getElem_cons hlt] at hp
        exact zbb hs1 ((List.pairwise_cons.1 hp).1 x h2)
  · rw [decide_eq_false (by omega), cond_false, cond_false, hput]
    refine hfin (fun x hx2 => ?_)
    rw [List.drop_eq_nil_of_le (by omega)] at hx2
    simp at hx2
def RB (n : Nat) (v : Review) : Prop := v.Branch.length ≤ 4 ∧ v.Into.length ≤ 4 ∧ v.By.length ≤ 4 ∧ LB n v.Yes
theorem RB.fit {n : Nat} {v : Review} (h : RB n v) (hn : n ≤ 1000) : Bk.fit v :=
  ⟨by have := h.1; show v.Branch.length ≤ maxi; unfold maxi; omega, by have := h.2.1; show v.Into.length ≤ maxi; unfold maxi; omega, by have := h.2.2.1; show v.By.length ≤ maxi; unfold maxi; omega, h.2.2.2.fit (by omega)⟩
def curS (c : UInt8) : Str → Str → List Str
  | w, [] => [w]
  | w, x :: r => bif x == c then w :: curS c [] r else curS c (w ++ [x]) r
def zek (c : UInt8) : Nat → Str → Str → List Str
  | _, w, [] => [w]
  | 0, w, x :: r => [w ++ x :: r]
  | n + 1, w, x :: r => bif x == c then w :: zek c n [] r else zek c (n + 1) (w ++ [x]) r
theorem zko (c : UInt8) : ∀ (r w : Str), 1 ≤ (curS c w r).length
  | [], w => by simp [curS]
  | x :: r, w => by
    unfold curS
    cases x == c
    · exact zko c r _
    · simp
theorem zem (c : UInt8) (w r : Str) : zek c 0 w r = [w ++ r] := by
  cases r <;> simp [zek]
theorem zdJ (c : UInt8) : ∀ (r : Str) (n : Nat) (w : Str), (curS c w r).length ≤ n + 1 → zek c n w r = curS c w r
  | [], n, w, h => by cases n <;> simp [zek, curS]
  | x :: r, 0, w, h => by
    unfold curS at h ⊢
    cases hx : x == c with
    | true =>
      rw [hx, cond_true] at h
      have := zko c r []
      rw [List.length_cons] at h
      omega
    | false =>
      rw [hx, cond_false] at h
      have ih := zdJ c r 0 (w ++ [x]) h
      rw [cond_false, ← ih, zem, zem]
      simp
  | x :: r, n + 1, w, h => by
    unfold curS at h ⊢
    unfold zek
    cases hx : x == c with
    | true =>
      rw [hx, cond_true, List.length_cons] at h
      rw [cond_true, cond_true, zdJ c r n [] (by omega)]
    | false =>
      rw [hx, cond_false] at h
      rw [cond_false, cond_false, zdJ c r (n + 1) _ h]
theorem zfs (c : UInt8) : ∀ (r : Str) (n : Nat) (w : Str), n + 1 ≤ (curS c w r).length → (zek c n w r).length = n + 1
  | [], n, w, h => by
    simp [curS] at h
    subst h
    simp [zek]
  | x :: r, 0, w, h => by simp [zek]
  | x :: r, n + 1, w, h => by
    unfold curS at h
    unfold zek
    cases hx : x == c with
    | true =>
      rw [hx, cond_true, List.length_cons] at h
      rw [cond_true, List.length_cons, zfs c r n [] (by omega)]
    | false =>
      rw [hx, cond_false] at h
      rw [cond_false, zfs c r (n + 1) _ h]
theorem zjP {c : UInt8} {w : Str} (h : c ∉ w) : Lib.index w [c] = -1 := Lib.index_none fun j hj => by
  cases ho : Lib.occAt w [c] j with
  | false => rfl
  | true => exact absurd (List.mem_of_getElem? (Lib.occAt_head rfl ho)) h
theorem zll {c : UInt8} {w r : Str} (h : c ∉ w) : Lib.index (w ++ c :: r) [c] = ((w.length : Nat) : Int) := Lib.index_first (by simp) (by simp [Lib.occAt, List.isPrefixOf]) fun j hj => by
  cases ho : Lib.occAt (w ++ c :: r) [c] j with
  | false => rfl
  | true =>
    have := Lib.occAt_head rfl ho
    rw [List.getElem?_append_left hj] at this
    exact absurd (List.mem_of_getElem? this) h
theorem zgW (c : UInt8) : ∀ (r w : Str), c ∉ w → Lib.split (w ++ r) [c] = curS c w r
  | [], w, h => by
    unfold Lib.split curS
    rw [List.append_nil, Lib.count_miss (zjP h)]
    rfl
  | x :: r, w, h => by
    unfold curS
    cases hx : x == c with
    | true =>
      have e : x = c := by simpa using hx
      subst e
      have hi := zll (r := r) h
      rw [cond_true]
      have ih := zgW x r [] (by simp)
      unfold Lib.split at ih ⊢
      have hd : (w ++ x :: r).drop (w.length + 1) = r := by
        rw [show w ++ x :: r = (w ++ [x]) ++ r by simp, List.drop_left' (by simp)]
      have hc : Lib.count (w ++ x :: r) [x] = Lib.count r [x] + 1 := by
        rw [Lib.count_hit (by simp) hi]
        show 1 + Lib.count ((w ++ x :: r).drop (w.length + 1)) [x] = _
        rw [hd]
        omega
      rw [hc]
      unfold Lib.splitK
      rw [if_neg (by rw [hi]; simp), hi]
      have e1 : (w ++ x :: r).take (((w.length : Nat) : Int).toNat + 0) = w := by simp
      have e2 : (w ++ x :: r).drop (((w.length : Nat) : Int).toNat + [x].length) = r := hd
      rw [e1, e2]
      simp only [List.nil_append] at ih
      rw [ih]
    | false =>
      have hne : x ≠ c := by simpa using hx
      rw [cond_false, show w ++ x :: r = (w ++ [x]) ++ r by simp]
      exact zgW c r (w ++ [x]) (by
        rw [List.mem_append, List.mem_singleton]
        rintro (h1 | h1)
        · exact h h1
        · exact hne h1.symm)
theorem znB (c : UInt8) (s : Str) : Lib.split s [c] = curS c [] s := zgW c s [] (by simp)
theorem zlY (u c : UInt8) : (((UInt8.toNat u : Nat) : Int) == ((UInt8.toNat c : Nat) : Int)) = (u == c) := by
  have : ∀ b c : Bool, (b = true ↔ c = true) → b = c := by decide
  apply this
  rw [beq_iff_eq, beq_iff_eq, ← UInt8.toNat_inj]
  omega
theorem zlZ {s : Str} {c : UInt8} {most : Nat} (hs : s.length ≤ 1048576) (hm : most ≤ 1000) : ∀ (n : Nat) (out : List Str) (from_ i m : Nat), i + n = s.length → n < m → from_ ≤ i → out.length ≤ most →
    zef s c (most : Int) (fun y3 y6 y7 => (slM s y6 (s.length : Int)).bind fun q38 => (apM y3 [q38]).bind fun q43 => some q43) m out (from_ : Int) (i : Int) = some (out ++ zek c (most - out.length) ((s.take i).drop from_) (s.drop i))
  | n, out, f, i, 0, _, hm, _, _ => by omega
  | n, out, f, i, m + 1, hi, hn, hf, ho => by
    have hdone : (slM s (f : Int) (s.length : Int)).bind (fun q38 => (apM out [q38]).bind fun q43 => some q43) = some (out ++ [s.drop f]) := by
      rw [zmY (by omega), Option.bind_some, ap1 (by omega), Option.bind_some]
    have hw : (s.take i).drop f ++ s.drop i = s.drop f := by
      rw [← List.drop_append_of_le_length (by simp; omega), List.take_append_drop]
    simp only [zef, jn]
    by_cases h1 : (i : Int) < (s.length : Int)
    case neg =>
      rw [decide_eq_false h1, cond_false, cond_false, hdone]
      have : s.drop i = [] := List.drop_eq_nil_of_le (by omega)
      rw [this] at hw ⊢
      rw [List.append_nil] at hw
      rw [hw]
      cases most - out.length <;> simp [zek]
    rw [decide_eq_true h1, cond_true]
    have hlt : i < s.length := by omega
    have hx : s[i]? = some s[i] := List.getElem?_eq_getElem hlt
    by_cases h2 : (out.length : Int) < (most : Int)
    case neg =>
      rw [decide_eq_false h2, cond_false, hdone]
      have : most - out.length = 0 := by omega
      rw [this, zem, hw]
    obtain ⟨n, rfl⟩ : ∃ k, n = k + 1 := ⟨n - 1, by omega⟩
    obtain ⟨k, hk⟩ : ∃ k, most - out.length = k + 1 := ⟨most - out.length - 1, by omega⟩
    rw [decide_eq_true h2, cond_true, ziB hx, Option.bind_some, zlY, hk, List.drop_eq_getElem_cons hlt]
    unfold zek
    cases hb : s[i] == c with
    | true =>
      rw [cond_true, cond_true, zgn (by omega) (by omega) (by omega), Option.bind_some, ap1 (by omega), Option.bind_some, zac hlt (by unfold maxi; omega), zlZ hs hm n _ (i + 1) (i + 1) m (by omega) (by omega) (by omega) (by simp; omega)]
      have e1 : most - (out ++ [((s.take ((i : Nat) : Int).toNat)).drop ((f : Nat) : Int).toNat]).length = k := by simp; omega
      have e2 : (s.take (i + 1)).drop (i + 1) = [] := List.drop_eq_nil_of_le (by simp; omega)
      rw [e1, e2]
      simp
    | false =>
      rw [cond_false, cond_false, zac hlt (by unfold maxi; omega), zlZ hs hm n _ f (i + 1) m (by omega) (by omega) (by omega) ho, hk]
      have e2 : (s.take (i + 1)).drop f = (s.take i).drop f ++ [s[i]] := by
        rw [List.take_add_one, hx]
        rw [List.drop_append_of_le_length (by simp; omega)]
        rfl
      rw [e2]
theorem znC {s : Str} {c : UInt8} {most : Nat} (hs : s.length ≤ 1048576) (hm : most ≤ 1000) : zgu s c (most : Int) = some (zek c most [] s) := by
  unfold zgu
  simp only [jn]
  have := zlZ (c := c) (most := most) hs hm s.length [] 0 0 (s.length + 1) (by omega) (by omega) (Nat.le_refl _) (by simp)
  simpa using this
def zaY (s : Str) : Bool := decide ((curS 47 [] s).length ≤ 3) && (curS 47 [] s).all zaM
theorem zij (c : UInt8) : ∀ (r w : Str), ∀ p ∈ curS c w r, p.length ≤ w.length + r.length
  | [], w, p, h => by simp [curS] at h; rw [h]; omega
  | x :: r, w, p, h => by
    unfold curS at h
    cases hx : x == c with
    | true =>
      rw [hx, cond_true] at h
      rcases List.mem_cons.1 h with e | e
      · rw [e]; omega
      · have := zij c r [] p e
        simp at this ⊢
        omega
    | false =>
      rw [hx, cond_false] at h
      have := zij c r (w ++ [x]) p h
      simp at this ⊢
      omega
theorem zgk (c : UInt8) : ∀ (r w : Str), (curS c w r).length ≤ r.length + 1
  | [], w => by simp [curS]
  | x :: r, w => by
    unfold curS
    cases x == c
    · have := zgk c r (w ++ [x]); simp at this ⊢; omega
    · have := zgk c r []; simp at this ⊢; omega
theorem zcD {s : Str} (h : s.length ≤ 1048576) : zdO s = some (zaY s) := by
  unfold zdO strings_Split zaY
  rw [if_pos ⟨by omega, by simp⟩, Option.bind_some, znB]
  have hl := zgk 47 s []
  by_cases h3 : (3 : Int) < ((curS 47 [] s).length : Int)
  · rw [decide_eq_true h3, cond_true, decide_eq_false (by omega)]; rfl
  rw [decide_eq_false h3, cond_false, decide_eq_true (by omega), Bool.true_and]
  simp only [jn, zak]
  rw [zbg (α := Str) (xs := curS 47 [] s) (p := zaM) (r0 := some false) (Z := some true) (f := fun m i => zcn (curS 47 [] s) (fun _ _ => some true) m false i) (fun m i x hx => by
    have hf := zij 47 s [] x (List.mem_of_getElem? hx)
    simp only [zcn, zal hx, zaf hx, cond_true, Option.bind_some, zac (zau hx) (show (curS 47 [] s).length ≤ maxi by unfold maxi; omega), zcG (show x.length ≤ maxi by unfold maxi; simp at hf; omega)]
    cases zaM x <;> rfl) (fun m => by simp only [zcn, zad, cond_false]) (by omega)]
  cases (curS 47 [] s).all zaM <;> rfl
theorem zhI (c : UInt8) : ∀ (r : Str) (n : Nat) (w : Str), ∀ p ∈ zek c n w r, p.length ≤ w.length + r.length
  | [], n, w, p, h => by cases n <;> simp [zek] at h <;> rw [h] <;> omega
  | x :: r, 0, w, p, h => by simp [zek] at h; rw [h]; simp
  | x :: r, n + 1, w, p, h => by
    unfold zek at h
    cases hx : x == c with
    | true =>
      rw [hx, cond_true] at h
      rcases List.mem_cons.1 h with e | e
      · rw [e]; omega
      · have := zhI c r n [] p e
        simp at this ⊢
        omega
    | false =>
      rw [hx, cond_false] at h
      have := zhI c r (n + 1) (w ++ [x]) p h
      simp at this ⊢
      omega
theorem zgX {s : Str} (h : s.length ≤ 1048576) : zdh s = some (zaY s) := by
  unfold zdh zaY
  have e47 : (UInt8.ofNatLT 47 (by decide) : UInt8) = 47 := by decide
  have hc := znC (c := UInt8.ofNatLT 47 (by decide)) (most := 3) h (by omega)
  rw [show (3 : Int) = ((3 : Nat) : Int) from rfl, hc, Option.bind_some, e47]
  simp only [jn, zak]
  have hlen : (zek 47 3 [] s).length ≤ maxi := by
    rcases Nat.lt_or_ge (curS 47 [] s).length 4 with h1 | h1
    · rw [zdJ 47 s 3 [] (by omega)]; unfold maxi; omega
    · rw [zfs 47 s 3 [] h1]; unfold maxi; omega
  rw [zbg (α := Str) (xs := zek 47 3 [] s) (p := zaM) (r0 := some false) (Z := some (decide (((zek 47 3 [] s).length : Int) ≤ ((3 : Nat) : Int)))) (f := fun m i => zch (zek 47 3 [] s) (fun _ _ => some (decide (((zek 47 3 [] s).length : Int) ≤ ((3 : Nat) : Int)))) m false i) (fun m i x hx => by
    have hf := zhI 47 s 3 [] x (List.mem_of_getElem? hx)
    simp only [zch, zal hx, zaf hx, cond_true, Option.bind_some, zac (zau hx) hlen, zc4 (show x.length ≤ maxi by unfold maxi; simp at hf; omega)]
    cases zaM x <;> rfl) (fun m => by simp only [zch, zad, cond_false]) (by omega)]
  rcases Nat.lt_or_ge (curS 47 [] s).length 4 with h1 | h1
  · rw [zdJ 47 s 3 [] (by omega), decide_eq_true (show ((curS 47 [] s).length : Int) ≤ ((3 : Nat) : Int) by omega), decide_eq_true (show (curS 47 [] s).length ≤ 3 by omega)]
    cases (curS 47 [] s).all zaM <;> rfl
  · rw [zfs 47 s 3 [] h1, decide_eq_false (show ¬ (curS 47 [] s).length ≤ 3 by omega)]
    cases (zek 47 3 [] s).all zaM <;> rfl
theorem zhJ (a b : Str) : (Op.bytesLess a b || a == b) = !Op.bytesLess b a := by
  rw [za6, za6]
  by_cases h : b < a
  · have h1 : ¬ a < b := fun h2 => zan a (zbb h2 h)
    have h2 : ¬ a = b := fun e => by rw [e] at h; exact zan b h
    simp [h, h1, h2]
  · by_cases e : a = b
    · simp [h, e]
    · have := zbX (zii.1 h) e
      simp [h, this]
def OB (xs : List Owner) : Prop := xs.length ≤ 1048576 ∧ ∀ x ∈ xs, x.Path.length ≤ 1048576 ∧ x.Who.length ≤ 1048576
theorem OB.of {xs : List Owner} (h : Bk.bulk xs ≤ 1048576) : OB xs := ⟨zcT h, fun x hx => by
  have h1 : Bk.bulk x ≤ 1048576 := zhN h hx
  have h2 : Bk.bulk x = x.Path.length + x.Who.length := rfl
  omega⟩
theorem OB.at_ {xs : List Owner} (h : OB xs) {i : Nat} {x : Owner} (hx : xs[i]? = some x) : x.Path.length ≤ 1048576 ∧ x.Who.length ≤ 1048576 := h.2 x (List.mem_of_getElem? hx)
def zbm (d p : Str) : Bool := (d ++ [47]).isPrefixOf p
theorem zjQ {d p : Str} (hd : d.length ≤ 1048576) (hp : p.length ≤ 1048576) (h1 : zaY d = true) (h2 : zaY p = true) : zbR d p = some (zbm d p) := by
  unfold zbR strings_HasPrefix zbm
  have hs : saM d ([47] : Str) = some (d ++ [47]) := by
    unfold saM
    rw [if_pos]
    simp only [List.length_cons, List.length_nil, lim]
    omega
  simp only [jn, zcD hd, zcD hp, h1, h2, Option.bind_some, cond_true, hs, Lib.hasPrefix]
theorem zgY {c : UInt8} : ∀ {d p : Str}, (d ++ [c]).isPrefixOf p = (p.take d.length == d && p[d.length]? == some c)
  | [], [] => by simp
  | [], x :: p => by
    by_cases e : c = x
    · subst e; simp [List.isPrefixOf]
    · have e1 : (c == x) = false := beq_false_of_ne e
      have e2 : ((some x : Option UInt8) == some c) = false := beq_false_of_ne (fun h => e (Option.some.inj h).symm)
      simp only [List.nil_append, List.isPrefixOf, e1, List.length_nil, List.take_zero, List.getElem?_cons_zero, e2, Bool.false_and, Bool.and_false]
  | y :: d, [] => by simp [List.isPrefixOf]
  | y :: d, x :: p => by
    have ih := zgY (c := c) (d := d) (p := p)
    simp only [List.cons_append, List.isPrefixOf, List.length_cons, List.take_succ_cons, List.getElem?_cons_succ, ih]
    by_cases e : y = x
    · subst e
      simp
    · have e1 : (y == x) = false := beq_false_of_ne e
      have e2 : (x == y) = false := beq_false_of_ne (fun h => e h.symm)
      simp [e1, e2]
theorem zne {d p : Str} (hp : p.length ≤ 1048576) : zg4 d p = some (zbm d p) := by
  unfold zg4 zbm
  simp only [jn]
  rw [zgY]
  by_cases hl : (d.length : Int) < (p.length : Int)
  · have hlt : d.length < p.length := by omega
    have hx : p[d.length]? = some p[d.length] := List.getElem?_eq_getElem hlt
    rw [decide_eq_true hl, cond_true, ziw (by omega), Option.bind_some, hx]
    cases p.take d.length == d with
    | false => rfl
    | true =>
      rw [cond_true, ziB hx, Option.bind_some, Bool.true_and]
      congr 1
      have := (show ∀ u : UInt8, (((UInt8.toNat u : Nat) : Int) == (47 : Int)) = (some u == some (47 : UInt8)) from fun u => by
        have hb := zlY u 47
        rw [show (((UInt8.toNat (47 : UInt8) : Nat) : Int)) = 47 from rfl] at hb
        rw [hb]
        simp)
      exact this _
  · rw [decide_eq_false hl, cond_false, List.getElem?_eq_none (by omega)]
    simp
structure OpFit (o : Op) : Prop where
  fit : Bk.fit o
  path : o.Path.length ≤ 1048576
  to : o.To.length ≤ 1048576
  text : Bk.bulk o.Text ≤ 1048576
theorem OpFit.of {o : Op} (h : Bk.fit o) (hb : Bk.bulk o ≤ 1048576) : OpFit o := by
  have e : Bk.bulk o = Bk.bulk o.Kind + (Bk.bulk o.Branch + (Bk.bulk o.Who + (Bk.bulk o.Path + (Bk.bulk o.To + (Bk.bulk o.At + Bk.bulk o.Text))))) := rfl
  have e1 : Bk.bulk o.Path = o.Path.length := rfl
  have e2 : Bk.bulk o.To = o.To.length := rfl
  exact ⟨h, by omega, by omega, by omega⟩
theorem zez : ∀ {b c : Bool}, (b = true ↔ c = true) → b = c := by decide
theorem zkC {i n : Nat} (hi : i < n) (hn : n ≤ maxi) (h0 : (0 : Int) < (i : Int)) : w64 ((i : Int) - 1) = ((i - 1 : Nat) : Int) := by
  rw [zai (by omega) (by unfold maxi at hn; omega)]; omega
structure FB (f : File) : Prop where
  path : f.Path.length ≤ 1048576
  len : f.Text.length ≤ 1048576
  text : Bk.fit f.Text
def TB (t : List File) : Prop := t.length ≤ 1048576 ∧ ∀ f ∈ t, FB f
theorem TB.at_ {t : List File} (h : TB t) {i : Nat} {f : File} (hf : t[i]? = some f) : FB f := h.2 f (List.mem_of_getElem? hf)
theorem TB.maxi {t : List File} (h : TB t) : t.length ≤ maxi := zas h.1
theorem TB.nil : TB [] := ⟨by simp, fun f hf => by simp at hf⟩
def zdR : File := ⟨[], []⟩
theorem zbY {t : List File} {i : Nat} {f : File} (h : t[i]? = some f) : t.getD i zdR = f := by simp [List.getD, h]
theorem zkp {t : List File} {i : Nat} {f : File} (h : t[i]? = some f) (hl : t.length ≤ maxi) (h0 : (0 : Int) < (i : Int)) : ∃ y, gi t (w64 ((i : Int) - 1)) = some y ∧ t.getD (i - 1) zdR = y := by
  have hi := zau h
  have hx : t[i - 1]? = some t[i - 1] := List.getElem?_eq_getElem (by omega)
  exact ⟨_, by rw [zkC hi hl h0]; exact zaf hx, zbY hx⟩
def zhi (t : List File) (i : Nat) : Bool := zaY (t.getD i zdR).Path && (zaB (t.getD i zdR).Text && (bif decide (0 < (i : Int)) then Op.bytesLess (t.getD (i - 1) zdR).Path (t.getD i zdR).Path else true))
def zhj (t : List File) (i : Nat) : Bool := zhi t i && t.all fun f => !zbm (t.getD i zdR).Path f.Path
def zjR (t : List File) (i : Nat) : Bool := zhi t i && (t.take i).all fun f => !(zaY f.Path && (zaY (t.getD i zdR).Path && zbm f.Path (t.getD i zdR).Path))
def zaJ (t : List File) : Bool := decide ((t.length : Int) ≤ 8) && zf2 (zhj t) 0 t.length
theorem zpc (d : Str) (x : UInt8) (r : Str) : d < d ++ x :: r := by
  induction d with
  | nil => exact List.nil_lt_cons _ _
  | cons a d ih => exact List.cons_lt_cons_self.2 ih
theorem znD {d p : Str} (h : zbm d p = true) : d < p := by
  unfold zbm at h
  obtain ⟨t, rfl⟩ := List.isPrefixOf_iff_prefix.1 h
  rw [List.append_assoc]
  exact zpc d 47 t
theorem zjS {t : List File} {n : Nat} (h : ∀ i, i < n → zhi t i = true) {i j : Nat} (hij : i < j) (hj : j < n) : (t.getD i zdR).Path < (t.getD j zdR).Path := by
  induction j with
  | zero => omega
  | succ j ih =>
    have h1 := h (j + 1) hj
    unfold zhi at h1
    rw [decide_eq_true (by omega), cond_true, Nat.add_sub_cancel] at h1
    simp only [Bool.and_eq_true, za6, decide_eq_true_eq] at h1
    rcases Nat.lt_or_ge i j with h2 | h2
    · exact zbb (ih h2 (by omega)) h1.2.2
    · have : i = j := by omega
      subst this
      exact h1.2.2
theorem zkT (t : List File) : zf2 (zjR t) 0 t.length = zf2 (zhj t) 0 t.length := by
  apply zez
  rw [zaL, zaL]
  constructor
  · intro h
    have hf : ∀ i, i < t.length → zhi t i = true := fun i hi => by
      have := h i (Nat.zero_le _) (by omega)
      unfold zjR at this
      simp only [Bool.and_eq_true] at this
      exact this.1
    intro i _ hi
    have hi' : i < t.length := by omega
    unfold zhj
    rw [hf i hi', Bool.true_and, List.all_eq_true]
    intro f hm
    obtain ⟨k, hk⟩ := List.mem_iff_getElem?.1 hm
    have hkl := zau hk
    cases hb : zbm (t.getD i zdR).Path f.Path with
    | false => rfl
    | true =>
      exfalso
      have hlt := znD hb
      rcases Nat.lt_trichotomy i k with h1 | h1 | h1
      · have := h k (Nat.zero_le _) (by omega)
        unfold zjR at this
        simp only [Bool.and_eq_true, List.all_eq_true] at this
        have h2 := this.2 t[i] (List.mem_of_getElem? (i := i) (by rw [List.getElem?_take_of_lt h1]; exact List.getElem?_eq_getElem hi'))
        have p1 := hf i hi'
        have p2 := hf k hkl
        unfold zhi at p1 p2
        simp only [Bool.and_eq_true] at p1 p2
        rw [zbY hk] at h2 p2
        rw [zbY (List.getElem?_eq_getElem hi')] at hb p1
        rw [p1.1, p2.1, hb] at h2
        simp at h2
      · subst h1
        rw [zbY hk] at hlt
        exact zan _ hlt
      · have := zjS hf h1 hi'
        rw [zbY hk] at this
        exact zan _ (zbb hlt this)
  · intro h i _ hi
    have hi' : i < t.length := by omega
    have h1 := h i (Nat.zero_le _) hi
    unfold zhj at h1
    simp only [Bool.and_eq_true] at h1
    unfold zjR
    rw [h1.1, Bool.true_and, List.all_eq_true]
    intro f hm
    obtain ⟨k, hk⟩ := List.mem_iff_getElem?.1 hm
    obtain ⟨hk', hki⟩ := show t[k]? = some f ∧ k < i from by
      rw [List.getElem?_take] at hk
      split at hk
      · exact ⟨hk, by assumption⟩
      · cases hk
    have h2 := h k (Nat.zero_le _) (by omega)
    unfold zhj at h2
    simp only [Bool.and_eq_true, List.all_eq_true] at h2
    have h3 := h2.2 t[i] (List.getElem_mem hi')
    rw [zbY hk'] at h3
    rw [zbY (List.getElem?_eq_getElem hi')]
    have h4 : zbm f.Path t[i].Path = false := by simpa using h3
    rw [h4]
    simp
theorem znf {t : List File} (h : TB t) : zg5 t = some (zaJ t) := by
  have hm := h.maxi
  unfold zg5 zaJ
  simp only [jn, zak]
  rw [zbt (n := t.length) (g := zhj t) (r0 := some false) (Z := some (decide ((t.length : Int) ≤ 8))) (f := fun m i => zdr t (fun _ _ => some (decide ((t.length : Int) ≤ 8))) m false i) (fun m i hi => by
    have hx : t[i]? = some t[i] := List.getElem?_eq_getElem hi
    have fx := h.at_ hx
    simp only [zdr, jn, zal hx, zaf hx, cond_true, Option.bind_some, zac hi hm, zgX fx.path, ziC fx.text]
    unfold zhj zhi
    rw [zbY hx]
    have hin : ∀ K : Bool → Int → Option Bool, zcw t (i : Int) K (t.length + 1) false 0 = bif t.all (fun f => !zbm t[i].Path f.Path) then K false (t.length : Int) else some false := fun K => by
      rw [zbg (α := File) (xs := t) (p := fun f => !zbm t[i].Path f.Path) (r0 := some false) (Z := K false (t.length : Int)) (f := fun m k => zcw t (i : Int) K m false k) (fun m k f hf => by
        simp only [zcw, zal hf, zaf hf, zaf hx, cond_true, Option.bind_some, zac (zau hf) hm, zne (h.at_ hf).path]
        cases zbm t[i].Path f.Path <;> rfl) (fun m => by simp only [zcw, zad, cond_false]) (by omega)]
    cases zaY t[i].Path
    · rfl
    cases zaB t[i].Text
    · rfl
    simp only [Bool.not_true, cond_false, Bool.true_and]
    by_cases h0 : (0 : Int) < (i : Int)
    · obtain ⟨y, hy, ey⟩ := zkp hx hm h0
      rw [hy, ey, decide_eq_true h0]
      simp only [Option.bind_some, zhJ, cond_true]
      cases Op.bytesLess y.Path t[i].Path
      · rfl
      · simp only [Bool.not_true, cond_false, Bool.true_and, zak, hin]
    · rw [decide_eq_false h0]
      simp only [cond_false, Bool.true_and, zak, hin]) (fun m => by simp only [zdr, zad, cond_false]) _ (by omega)]
  cases decide ((t.length : Int) ≤ 8) <;> cases zf2 (zhj t) 0 t.length <;> rfl
theorem zkU {d p : Str} (hd : d.length ≤ 1048576) (hp : p.length ≤ 1048576) : zbR d p = some (zaY d && (zaY p && zbm d p)) := by
  cases h1 : zaY d with
  | false => unfold zbR; simp only [jn, zcD hd, h1, Option.bind_some, cond_false, Bool.false_and]
  | true =>
    cases h2 : zaY p with
    | false => unfold zbR; simp only [jn, zcD hd, zcD hp, h1, h2, Option.bind_some, cond_false, cond_true, Bool.false_and, Bool.and_false]
    | true => rw [zjQ hd hp h1 h2]; rfl
theorem zen {t : List File} (h : TB t) : zb1 t = some (zaJ t) := by
  have hm := h.maxi
  unfold zb1 zaJ
  by_cases h8 : (8 : Int) < (t.length : Int)
  · rw [decide_eq_true h8, decide_eq_false (by omega)]; rfl
  rw [decide_eq_false h8, decide_eq_true (by omega), cond_false, Bool.true_and, ← zkT]
  simp only [jn, zak]
  rw [zbt (n := t.length) (g := zjR t) (r0 := some false) (Z := some true) (f := fun m i => zco t (fun _ _ => some true) m false i) (fun m i hi => by
    have hx : t[i]? = some t[i] := List.getElem?_eq_getElem hi
    have fx := h.at_ hx
    simp only [zco, jn, zal hx, zaf hx, cond_true, Option.bind_some, zac hi hm, zcD fx.path, zfT fx.text, ziw (Nat.le_of_lt hi), zak]
    unfold zjR zhi
    rw [zbY hx]
    have hin : ∀ K : Bool → Int → Option Bool, zbx t[i] (t.take i) K ((t.take i).length + 1) false 0 = bif (t.take i).all (fun f => !(zaY f.Path && (zaY t[i].Path && zbm f.Path t[i].Path))) then K false ((t.take i).length : Int) else some false := fun K => by
      rw [zbg (α := File) (xs := t.take i) (p := fun f => !(zaY f.Path && (zaY t[i].Path && zbm f.Path t[i].Path))) (r0 := some false) (Z := K false ((t.take i).length : Int)) (f := fun m k => zbx t[i] (t.take i) K m false k) (fun m k f hf => by
        have hf2 : FB f := h.2 f (List.mem_of_mem_take (List.mem_of_getElem? hf))
        simp only [zbx, zal hf, zaf hf, cond_true, Option.bind_some, zac (zau hf) (show (t.take i).length ≤ maxi by simp; omega), zkU hf2.path fx.path]
        cases (zaY f.Path && (zaY t[i].Path && zbm f.Path t[i].Path)) <;> rfl) (fun m => by simp only [zbx, zad, cond_false]) (by omega)]
    cases zaB t[i].Text
    · cases zaY t[i].Path <;> rfl
    cases hp : zaY t[i].Path
    · rfl
    simp only [Bool.not_true, cond_false, Bool.true_and]
    by_cases h0 : (0 : Int) < (i : Int)
    · obtain ⟨y, hy, ey⟩ := zkp hx hm h0
      rw [hy, ey, decide_eq_true h0]
      simp only [Option.bind_some, cond_true]
      cases Op.bytesLess y.Path t[i].Path
      · rfl
      · simp only [Bool.not_true, cond_false, Bool.true_and, zak, hin, hp]
    · rw [decide_eq_false h0]
      simp only [cond_false, Bool.true_and, zak, hin, hp]) (fun m => by simp only [zco, zad, cond_false]) _ (by omega)]
  cases zf2 (zjR t) 0 t.length <;> rfl
structure CB (c : Commit) : Prop where
  par : c.Parents.length ≤ 1048576
  who : c.Who.length ≤ 1048576
  tree : TB c.Tree
structure RpB (r : Repo) : Prop where
  coms : r.Commits.length ≤ 1048576
  com : ∀ c ∈ r.Commits, CB c
  heads : r.Heads.length ≤ 1048576
  head : ∀ h ∈ r.Heads, h.Name.length ≤ 1048576
theorem RpB.cat {r : Repo} (h : RpB r) {i : Nat} {c : Commit} (hc : r.Commits[i]? = some c) : CB c := h.com c (List.mem_of_getElem? hc)
theorem RpB.hat {r : Repo} (h : RpB r) {i : Nat} {c : Head} (hc : r.Heads[i]? = some c) : c.Name.length ≤ 1048576 := h.head c (List.mem_of_getElem? hc)
def zfO : Head := ⟨[], 0⟩
theorem zbZ {t : List Head} {i : Nat} {f : Head} (h : t[i]? = some f) : t.getD i zfO = f := by simp [List.getD, h]
theorem zkq {t : List Head} {i : Nat} {f : Head} (h : t[i]? = some f) (hl : t.length ≤ maxi) (h0 : (0 : Int) < (i : Int)) : ∃ y, gi t (w64 ((i : Int) - 1)) = some y ∧ t.getD (i - 1) zfO = y := by
  have hi := zau h
  have hx : t[i - 1]? = some t[i - 1] := List.getElem?_eq_getElem (by omega)
  exact ⟨_, by rw [zkC hi hl h0]; exact zaf hx, zbZ hx⟩
def upB (i p : Int) : Bool := decide (0 ≤ p) && decide (p ≤ i - 1)
def znE (ps : List Int) : Bool := match ps with
  | [p, q] => !(p == q)
  | _ => true
def zli (i : Int) (c : Commit) : Bool := c.Parents.all (upB i) && (decide ((c.Parents.length : Int) ≤ 2) && (znE c.Parents && (zaM c.Who && zaJ c.Tree)))
def noCommit : Commit := ⟨[], [], []⟩
def zlF (cs : List Commit) : Bool := zf2 (fun i => zli i (cs.getD i noCommit)) 0 cs.length
def zgE (n : Nat) (hs : List Head) (i : Nat) : Bool := zaM (hs.getD i zfO).Name && (upB n (hs.getD i zfO).At && (bif decide (0 < (i : Int)) then Op.bytesLess (hs.getD (i - 1) zfO).Name (hs.getD i zfO).Name else true))
def zdy (n : Nat) (hs : List Head) : Bool := zf2 (zgE n hs) 0 hs.length && decide ((hs.length : Int) ≤ 5)
def zae (r : Repo) : Bool := decide ((r.Commits.length : Int) ≤ 16) && (zlF r.Commits && zdy r.Commits.length r.Heads)
theorem zd0 {t : List Commit} {i : Nat} {f : Commit} (h : t[i]? = some f) : t.getD i noCommit = f := by simp [List.getD, h]
theorem zf1 {n : Nat} (hn : n ≤ maxi) : w64 ((n : Int) - 1) = (n : Int) - 1 := zai (by omega) (by unfold maxi at hn; omega)
def zpd (i : Int) (ps : List Int) (k : Nat) : Bool := upB i (ps.getD k 0) && !(decide (0 < (k : Int)) && (ps.getD k 0 == ps.getD 0 0))
theorem zdg {t : List Int} {i : Nat} {f : Int} (h : t[i]? = some f) : t.getD i 0 = f := by simp [List.getD, h]
theorem zl0 (i : Int) (ps : List Int) (h2 : (ps.length : Int) ≤ 2) : zf2 (zpd i ps) 0 ps.length = (ps.all (upB i) && znE ps) := by
  match ps, h2 with
  | [], _ => rfl
  | [p], _ => simp [zf2, zpd, znE]
  | [p, q], _ =>
    simp only [zf2, zpd, znE, List.length_cons, List.length_nil, List.all_cons, List.all_nil]
    have e : (q == p) = (p == q) := by
      apply zez; rw [beq_iff_eq, beq_iff_eq]; exact eq_comm
    simp [e]
    cases upB i p <;> cases upB i q <;> simp
  | p :: q :: s :: l, h => simp at h; omega
theorem zt2 {i : Nat} {c : Commit} (hi : i ≤ 1048576) (hc : CB c) (K : Bool → Int → Option Bool) : zcx (i : Int) c K (c.Parents.length + 1) false 0 = bif zf2 (zpd i c.Parents) 0 c.Parents.length then K false (c.Parents.length : Int) else some false := by
  have hm := zas hc.par
  rw [zbt (n := c.Parents.length) (g := zpd i c.Parents) (r0 := some false) (Z := K false (c.Parents.length : Int)) (f := fun m k => zcx (i : Int) c K m false k) (fun m k hk => by
    have hx : c.Parents[k]? = some c.Parents[k] := List.getElem?_eq_getElem hk
    have h00 : c.Parents[0]? = some c.Parents[0] := List.getElem?_eq_getElem (by omega)
    have hg0 : gi c.Parents 0 = some c.Parents[0] := zaf (i := 0) h00
    simp only [zcx, jn, zal hx, zaf hx, hg0, cond_true, Option.bind_some, zac hk hm, zgV, zf1 (show i ≤ maxi by unfold maxi; omega)]
    unfold zpd
    rw [zdg hx, zdg h00, show (decide ((0 : Int) ≤ c.Parents[k]) && decide (c.Parents[k] ≤ (i : Int) - 1)) = upB i c.Parents[k] from rfl]
    cases upB (i : Int) c.Parents[k]
    · rfl
    · cases decide ((0 : Int) < (k : Int))
      · rfl
      · cases (c.Parents[k] == c.Parents[0]) <;> rfl) (fun m => by simp only [zcx, zad, cond_false]) _ (by omega)]
theorem zt3 {r : Repo} (h : RpB r) : zcy r (fun _ _ => jn (fun (y128 : Bool) => some y128) fun K130 => bif decide (((r.Commits.length : Int) : Int) ≤ (16 : Int)) then (K130 (decide (((r.Heads.length : Int) : Int) ≤ (5 : Int)))) else (K130 false)) (r.Heads.length + 1) false 0 = some (decide ((r.Commits.length : Int) ≤ 16) && zdy r.Commits.length r.Heads) := by
  have hm := zas h.heads
  rw [zbt (n := r.Heads.length) (g := zgE r.Commits.length r.Heads) (r0 := some false) (Z := some (decide ((r.Commits.length : Int) ≤ 16) && decide ((r.Heads.length : Int) ≤ 5))) (f := fun m k => zcy r _ m false k) (fun m k hk => by
    have hx : r.Heads[k]? = some r.Heads[k] := List.getElem?_eq_getElem hk
    simp only [zcy, jn, zal hx, zaf hx, cond_true, Option.bind_some, zac hk hm, zgV, zf1 (zas h.coms), zc4 (zas (h.hat hx))]
    unfold zgE
    rw [zbZ hx, show (decide ((0 : Int) ≤ r.Heads[k].At) && decide (r.Heads[k].At ≤ (r.Commits.length : Int) - 1)) = upB r.Commits.length r.Heads[k].At from rfl]
    cases zaM r.Heads[k].Name
    · rfl
    cases upB r.Commits.length r.Heads[k].At
    · rfl
    by_cases h0 : (0 : Int) < (k : Int)
    · obtain ⟨y, hy, ey⟩ := zkq hx hm h0
      rw [hy, ey, decide_eq_true h0]
      simp only [Option.bind_some, zhJ]
      cases Op.bytesLess y.Name r.Heads[k].Name <;> rfl
    · rw [decide_eq_false h0]; rfl) (fun m => by
      simp only [zcy, zad, cond_false, jn]
      cases decide ((r.Commits.length : Int) ≤ 16) <;> rfl) _ (by omega)]
  unfold zdy
  cases zf2 (zgE r.Commits.length r.Heads) 0 r.Heads.length <;> cases decide ((r.Commits.length : Int) ≤ 16) <;> rfl
theorem zkD {r : Repo} (h : RpB r) : zfg r = some (zae r) := by
  have hm := zas h.coms
  unfold zfg zae zlF
  simp only [jn, zak]
  have h3 := zt3 h
  simp only [jn] at h3
  rw [zbt (n := r.Commits.length) (g := fun i => zli i (r.Commits.getD i noCommit)) (r0 := some false) (Z := some (decide ((r.Commits.length : Int) ≤ 16) && zdy r.Commits.length r.Heads)) (f := fun m i => zds r _ m false i) (fun m i hi => by
    have hx : r.Commits[i]? = some r.Commits[i] := List.getElem?_eq_getElem hi
    have hc := h.cat hx
    have hco := h.coms
    simp only [zds, jn, zal hx, zaf hx, cond_true, Option.bind_some, zac hi hm, zak, zt2 (show i ≤ 1048576 by omega) hc, zd0 hx]
    unfold zli
    by_cases h2 : (2 : Int) < (r.Commits[i].Parents.length : Int)
    · rw [decide_eq_true h2, decide_eq_false (show ¬ (r.Commits[i].Parents.length : Int) ≤ 2 by omega)]
      simp only [cond_true, Bool.false_and, Bool.and_false, cond_false]
      cases zf2 (zpd i r.Commits[i].Parents) 0 r.Commits[i].Parents.length <;> rfl
    · rw [decide_eq_false h2, decide_eq_true (show (r.Commits[i].Parents.length : Int) ≤ 2 by omega), zl0 _ _ (by omega)]
      simp only [cond_false, Bool.true_and, zc4 (zas hc.who), znf hc.tree, Option.bind_some]
      cases r.Commits[i].Parents.all (upB i) <;> cases znE r.Commits[i].Parents <;> cases zaM r.Commits[i].Who <;> cases zaJ r.Commits[i].Tree <;> rfl) (fun m => by
      simp only [zds, zad, cond_false, jn, zak, h3]) _ (by omega)]
  cases zf2 (fun i => zli i (r.Commits.getD i noCommit)) 0 r.Commits.length <;> cases decide ((r.Commits.length : Int) ≤ 16) <;> rfl
theorem zkV {r : Repo} (h : RpB r) {hs : List Head} (hl : hs.length ≤ 1048576) (hn : ∀ h ∈ hs, h.Name.length ≤ 1048576) : ze0 r hs = some (zdy r.Commits.length hs) := by
  have hm := zas hl
  unfold ze0 zdy
  by_cases h5 : (5 : Int) < (hs.length : Int)
  · rw [decide_eq_true h5, decide_eq_false (show ¬ (hs.length : Int) ≤ 5 by omega), Bool.and_false]; rfl
  rw [decide_eq_false h5, decide_eq_true (show (hs.length : Int) ≤ 5 by omega), cond_false, Bool.and_true]
  simp only [jn, zak]
  rw [zbt (n := hs.length) (g := zgE r.Commits.length hs) (r0 := some false) (Z := some true) (f := fun m k => zbS r hs (fun _ _ => some true) m false k) (fun m k hk => by
    have hx : hs[k]? = some hs[k] := List.getElem?_eq_getElem hk
    simp only [zbS, zbC, jn, zal hx, zaf hx, cond_true, Option.bind_some, zac hk hm, zfU, zf1 (zas h.coms), zcG (zas (hn _ (List.mem_of_getElem? hx)))]
    unfold zgE
    rw [zbZ hx, show (decide ((0 : Int) ≤ hs[k].At) && decide (hs[k].At ≤ (r.Commits.length : Int) - 1)) = upB r.Commits.length hs[k].At from rfl]
    cases zaM hs[k].Name
    · rfl
    cases upB r.Commits.length hs[k].At
    · rfl
    by_cases h0 : (0 : Int) < (k : Int)
    · obtain ⟨y, hy, ey⟩ := zkq hx hm h0
      rw [hy, ey, decide_eq_true h0]
      simp only [Option.bind_some]
      cases Op.bytesLess y.Name hs[k].Name <;> rfl
    · rw [decide_eq_false h0]; rfl) (fun m => by simp only [zbS, zad, cond_false]) _ (by omega)]
  cases zf2 (zgE r.Commits.length hs) 0 hs.length <;> rfl
theorem zje {r : Repo} (h : RpB r) : zeG r = some (zae r) := by
  have hm := zas h.coms
  unfold zeG zae zlF
  by_cases h16 : (16 : Int) < (r.Commits.length : Int)
  · rw [decide_eq_true h16, decide_eq_false (by omega)]; rfl
  rw [decide_eq_false h16, decide_eq_true (by omega), cond_false, Bool.true_and]
  simp only [jn, zak]
  rw [zbt (n := r.Commits.length) (g := fun i => zli i (r.Commits.getD i noCommit)) (r0 := some false) (Z := some (zdy r.Commits.length r.Heads)) (f := fun m i => zcp r _ m false i) (fun m i hi => by
    have hx : r.Commits[i]? = some r.Commits[i] := List.getElem?_eq_getElem hi
    have hc := h.cat hx
    have hco := h.coms
    have hpm := zas hc.par
    have hin : ∀ K : Bool → Int → Option Bool, zby (i : Int) r.Commits[i] K (r.Commits[i].Parents.length + 1) false 0 = bif r.Commits[i].Parents.all (upB i) then K false (r.Commits[i].Parents.length : Int) else some false := fun K => by
      rw [zbg (α := Int) (xs := r.Commits[i].Parents) (p := upB i) (r0 := some false) (Z := K false (r.Commits[i].Parents.length : Int)) (f := fun m k => zby (i : Int) r.Commits[i] K m false k) (fun m k p hp => by
        simp only [zby, zal hp, zaf hp, cond_true, Option.bind_some, zac (zau hp) hpm, zfU, zf1 (show i ≤ maxi by unfold maxi; omega)]
        rw [show (decide ((0 : Int) ≤ p) && decide (p ≤ (i : Int) - 1)) = upB i p from rfl]
        cases upB i p <;> rfl) (fun m => by simp only [zby, zad, cond_false]) (by omega)]
    simp only [zcp, jn, zal hx, zaf hx, cond_true, Option.bind_some, zac hi hm, zak, hin, zd0 hx, zcG (zas hc.who), zen hc.tree]
    unfold zli
    match hps : r.Commits[i].Parents with
    | [] => cases zaM r.Commits[i].Who <;> cases zaJ r.Commits[i].Tree <;> rfl
    | [p] =>
      simp only [List.length_cons, List.length_nil, List.all_cons, List.all_nil, znE]
      cases upB i p <;> cases zaM r.Commits[i].Who <;> cases zaJ r.Commits[i].Tree <;> rfl
    | [p, q] =>
      simp only [List.length_cons, List.length_nil, List.all_cons, List.all_nil, znE, gi, List.getElem?_cons_zero, List.getElem?_cons_succ, Int.toNat_zero, Int.toNat_one]
      cases upB i p <;> cases upB i q <;> cases hpq : p == q <;> cases zaM r.Commits[i].Who <;> cases zaJ r.Commits[i].Tree <;> simp [hpq] <;> rfl
    | p :: q :: s :: l =>
      rw [decide_eq_true (by simp only [List.length_cons]; omega), decide_eq_false (show ¬ (((p :: q :: s :: l).length : Nat) : Int) ≤ 2 by simp only [List.length_cons]; omega)]
      simp only [cond_true, Bool.false_and, Bool.and_false, cond_false]) (fun m => by
      simp only [zcp, zad, cond_false, jn, zkV h h.heads h.head, Option.bind_some]) _ (by omega)]
  cases zf2 (fun i => zli i (r.Commits.getD i noCommit)) 0 r.Commits.length <;> rfl
def atB (r : Repo) (name : Str) : Int := match r.Heads.find? (fun h => h.Name == name) with
  | some h => h.At
  | none => -1
theorem zkE {r : Repo} (h : RpB r) (name : Str) : zeQ r name = some (atB r name) := by
  have hm := zas h.heads
  unfold zeQ atB
  simp only [jn, zak]
  rw [zdm (p := fun h : Head => h.Name == name) (xs := r.Heads) (r := fun h => some h.At) (Z := some (-1)) (f := fun m k => zdt r name _ m 0 k) (fun m i x hx => by
    simp only [zdt, zal hx, zaf hx, cond_true, Option.bind_some, zac (zau hx) hm]) (fun m => by simp only [zdt, zad, cond_false]) (by omega)]
  cases r.Heads.find? (fun h => h.Name == name) <;> rfl
theorem zm8 {r : Repo} (h : RpB r) (name : Str) : zcz r name = some (atB r name) := by
  have hm := zas h.heads
  unfold zcz atB
  simp only [jn, zak]
  rw [zdm (p := fun h : Head => h.Name == name) (xs := r.Heads) (r := fun h => some h.At) (Z := some (-1)) (f := fun m k => zbT r name _ m 0 k) (fun m i x hx => by
    simp only [zbT, zal hx, zaf hx, cond_true, Option.bind_some, zac (zau hx) hm]) (fun m => by simp only [zbT, zad, cond_false]) (by omega)]
  cases r.Heads.find? (fun h => h.Name == name) <;> rfl
theorem zl1 {r : Repo} (h : RpB r) (a : Int) : zbC r a = some (upB r.Commits.length a) := by
  unfold zbC
  rw [zf1 (zas h.coms), zfU, Option.bind_some]
  rfl
theorem zap {n : Nat} {a : Int} : upB n a = true ↔ 0 ≤ a ∧ a ≤ (n : Int) - 1 := by
  unfold upB
  simp only [Bool.and_eq_true, decide_eq_true_eq]
theorem zl2 {t : List File} (h : TB t) : zgf t = some t := by
  have hm := h.maxi
  have hl := h.1
  unfold zgf
  simp only [jn, zak]
  rw [zeE (xs := t) (p := fun _ => true) (g := fun f : File => f) (Z := fun acc => some acc) (f := fun m acc i => zdA t _ m acc i) (fun m i x acc hx ha => by
    have hi := zau hx
    simp only [zdA, zal hx, zaf hx, cond_true, Option.bind_some, zac hi hm, apN (h.at_ hx).len, ap1 (show acc.length ≤ 1048576 by omega)]) (fun m acc => by simp only [zdA, zad, cond_false]) (by omega)]
  simp
theorem zhO {t : List File} (h : TB t) : zcE t = some t := by
  have hm := h.maxi
  have hl := h.1
  unfold zcE
  simp only [jn, zak]
  rw [zeE (xs := t) (p := fun _ => true) (g := fun f : File => f) (Z := fun acc => some acc) (f := fun m acc i => zcL t _ m acc i) (fun m i x acc hx ha => by
    have hi := zau hx
    simp only [zcL, zal hx, zaf hx, cond_true, Option.bind_some, zac hi hm, za8 (h.at_ hx).len, ap1 (show acc.length ≤ 1048576 by omega)]) (fun m acc => by simp only [zcL, zad, cond_false]) (by omega)]
  simp
theorem zjT {c : Commit} (h : CB c) : zdv c = some c := by
  unfold zdv
  rw [apN h.par, Option.bind_some, zl2 h.tree, Option.bind_some]
theorem zl3 {r : Repo} (h : RpB r) : zfJ r = some r := by
  have hm := zas h.coms
  have hl := h.coms
  unfold zfJ
  simp only [jn, zak, apN h.heads, Option.bind_some]
  rw [zeE (xs := r.Commits) (p := fun _ => true) (g := fun f : Commit => f) (Z := fun acc => some (Repo.mk acc r.Heads)) (f := fun m acc i => zdB r _ m i acc r.Heads) (fun m i x acc hx ha => by
    have hi := zau hx
    simp only [zdB, zal hx, zaf hx, cond_true, Option.bind_some, zac hi hm, zjT (h.cat hx), ap1 (show acc.length ≤ 1048576 by omega)]) (fun m acc => by simp only [zdB, zad, cond_false]) (by omega)]
  rw [show ((r.Commits.filter fun _ => true).map fun f : Commit => f) = r.Commits by simp]
def zeY (n : Str) (a : Int) : Bool → List Head → List Head
  | put, [] => bif put then [] else [⟨n, a⟩]
  | put, h :: hs => (bif !put && !Op.bytesLess h.Name n then [⟨n, a⟩] else []) ++ ((bif h.Name != n then [h] else []) ++ zeY n a (put || !Op.bytesLess h.Name n) hs)
theorem zgJ (n : Str) (a : Int) : ∀ (hs : List Head) (put : Bool), (zeY n a put hs).length + (bif put then 1 else 0) ≤ hs.length + 1
  | [], put => by cases put <;> simp [zeY]
  | h :: hs, put => by
    have ih := zgJ n a hs (put || !Op.bytesLess h.Name n)
    unfold zeY
    cases put <;> cases hb : Op.bytesLess h.Name n <;> cases hn : (h.Name != n) <;> simp [hb] at ih ⊢ <;> omega
theorem putH_mem (n : Str) (a : Int) : ∀ (hs : List Head) (put : Bool) (x : Head), x ∈ zeY n a put hs → x ∈ hs ∨ x = ⟨n, a⟩
  | [], put, x, h => by cases put <;> simp [zeY] at h; exact .inr h
  | h :: hs, put, x, hx => by
    unfold zeY at hx
    rcases List.mem_append.1 hx with h1 | h1
    · cases hc : (!put && !Op.bytesLess h.Name n) with
      | true => rw [hc] at h1; simp at h1; exact .inr h1
      | false => rw [hc] at h1; simp at h1
    · rcases List.mem_append.1 h1 with h2 | h2
      · cases hc : (h.Name != n) with
        | true => rw [hc] at h2; simp at h2; exact .inl (by rw [h2]; simp)
        | false => rw [hc] at h2; simp at h2
      · rcases putH_mem n a hs _ x h2 with h3 | h3
        · exact .inl (List.mem_cons_of_mem _ h3)
        · exact .inr h3
theorem zl4 {r : Repo} (h : RpB r) (hs : r.Heads.length ≤ 100000) (n : Str) (a : Int) (cs : List Commit) : ∀ (k i m : Nat) (put : Bool) (out : List Head), i + k = r.Heads.length → k < m → out.length ≤ 2 * i →
    zdD r n a (fun y14 _ y16 y19 => bif (!y14) then ((apM y19 [Vm.Head.mk n a]).bind fun q160 => some (Vm.Repo.mk y16 q160)) else some (Vm.Repo.mk y16 y19)) m put (i : Int) cs out = some ⟨cs, out ++ zeY n a put (r.Heads.drop i)⟩
  | k, i, 0, put, out, _, hm, _ => by omega
  | 0, i, m + 1, put, out, hi, _, ho => by
    obtain rfl : i = r.Heads.length := by omega
    simp only [zdD, zad, cond_false, List.drop_length]
    cases put
    · simp only [Bool.not_false, cond_true, ap1 (show out.length ≤ 1048576 by omega), Option.bind_some, zeY, cond_false]
    · simp [zeY]
  | k + 1, i, m + 1, put, out, hi, hm, ho => by
    have hlt : i < r.Heads.length := by omega
    have hx : r.Heads[i]? = some r.Heads[i] := List.getElem?_eq_getElem hlt
    have hd : r.Heads.drop i = r.Heads[i] :: r.Heads.drop (i + 1) := List.drop_eq_getElem_cons hlt
    have hw := zac hlt (zas h.heads)
    have ih := fun put out ho => zl4 h hs n a cs k (i + 1) m put out (by omega) (by omega) ho
    simp only [zdD, jn, zal hx, zaf hx, cond_true, Option.bind_some, hw]
    rw [hd]
    unfold zeY
    have e1 := ap1 (x := Vm.Head.mk n a) (show out.length ≤ 1048576 by omega)
    have e2 := ap1 (x := r.Heads[i]) (show out.length ≤ 1048576 by omega)
    have e3 : apM (out ++ [Vm.Head.mk n a]) [r.Heads[i]] = some (out ++ ([Vm.Head.mk n a] ++ [r.Heads[i]])) := by rw [ap1 (show (out ++ [Vm.Head.mk n a]).length ≤ 1048576 by simp; omega), List.append_assoc]
    have l1 : (out ++ [r.Heads[i]]).length ≤ 2 * (i + 1) := by simp; omega
    have l2 : (out ++ [Vm.Head.mk n a]).length ≤ 2 * (i + 1) := by simp; omega
    have l3 : (out ++ ([Vm.Head.mk n a] ++ [r.Heads[i]])).length ≤ 2 * (i + 1) := by simp; omega
    have l0 : out.length ≤ 2 * (i + 1) := by omega
    cases put <;> cases Op.bytesLess r.Heads[i].Name n <;> cases (r.Heads[i].Name != n) <;>
      simp only [Bool.not_true, Bool.not_false, cond_true, cond_false, e1, e2, e3, Option.bind_some, Bool.and_true, Bool.and_false, Bool.or_true, Bool.or_false, Bool.true_and, Bool.false_and, Bool.true_or, Bool.false_or, ih _ _ l0, ih _ _ l1, ih _ _ l2, ih _ _ l3, List.append_assoc, List.nil_append]
def headR (r : Repo) (n : Str) (a : Int) : Repo := ⟨r.Commits, zeY n a false r.Heads⟩
theorem zl5 {r : Repo} (h : RpB r) (hs : r.Heads.length ≤ 100000) (n : Str) (a : Int) : zgg r n a = some (headR r n a) := by
  unfold zgg headR
  simp only [jn, zak]
  have := zl4 h hs n a r.Commits r.Heads.length 0 (r.Heads.length + 1) false [] (by omega) (by omega) (by simp)
  simpa using this
theorem RpB.headR {r : Repo} (h : RpB r) (hs : r.Heads.length ≤ 100000) {n : Str} (hn : n.length ≤ 1048576) (a : Int) : RpB (headR r n a) :=
  ⟨h.coms, h.com, by have := zgJ n a r.Heads false; simp at this; show (zeY n a false r.Heads).length ≤ _; omega, fun x hx => by
    rcases putH_mem n a r.Heads false x hx with h1 | h1
    · exact h.head x h1
    · rw [h1]; exact hn⟩
def addR (r : Repo) (n : Str) (c : Commit) : Repo := ⟨r.Commits ++ [c], zeY n r.Commits.length false r.Heads⟩
theorem RpB.push {r : Repo} (h : RpB r) {c : Commit} (hc : CB c) (hl : r.Commits.length ≤ 100000) : RpB ⟨r.Commits ++ [c], r.Heads⟩ :=
  ⟨by simp; omega, fun x hx => by
    rcases List.mem_append.1 hx with h1 | h1
    · exact h.com x h1
    · rw [List.mem_singleton] at h1; rw [h1]; exact hc, h.heads, h.head⟩
theorem RpB.addR {r : Repo} (h : RpB r) (hl : r.Commits.length ≤ 100000) (hs : r.Heads.length ≤ 100000) {n : Str} (hn : n.length ≤ 1048576) {c : Commit} (hc : CB c) : RpB (addR r n c) :=
  (h.push hc hl).headR hs hn _
theorem zqD {r : Repo} (h : RpB r) (hl : r.Commits.length ≤ 100000) (hs : r.Heads.length ≤ 100000) (n : Str) {c : Commit} (hc : CB c) : zgy r n c = some (addR r n c) := by
  unfold zgy
  rw [apN h.coms, Option.bind_some, ap1 h.coms, Option.bind_some, zl5 (h.push hc hl) hs, Option.bind_some]
  rfl
theorem zag {r : Repo} (h : zae r = true) : r.Commits.length ≤ 16 ∧ r.Heads.length ≤ 5 := by
  unfold zae zdy at h
  simp only [Bool.and_eq_true, decide_eq_true_eq] at h
  omega
def zdc : Repo := ⟨[], []⟩
theorem zaG {t : List File} (h : zaJ t = true) : t.length ≤ 8 := by
  unfold zaJ at h
  simp only [Bool.and_eq_true, decide_eq_true_eq] at h
  omega
theorem zfS {r : Repo} (h : zae r = true) {i : Nat} (hi : i < r.Commits.length) : zli i (r.Commits.getD i noCommit) = true := by
  unfold zae zlF at h
  simp only [Bool.and_eq_true] at h
  exact zaL.1 h.2.1 i (Nat.zero_le _) (by omega)
def zab (r : Repo) (i : Nat) : List Int := (r.Commits.getD i noCommit).Parents
theorem zaI {r : Repo} (h : zae r = true) {i : Nat} (hi : i < r.Commits.length) : (zab r i).length ≤ 2 ∧ ∀ p ∈ zab r i, 0 ≤ p ∧ p ≤ (i : Int) - 1 := by
  have := zfS h hi
  unfold zli at this
  simp only [Bool.and_eq_true, decide_eq_true_eq, List.all_eq_true] at this
  obtain ⟨h1, h2, _⟩ := this
  refine ⟨by unfold zab; omega, fun p hp => ?_⟩
  have := h1 p hp
  unfold upB at this
  simp only [Bool.and_eq_true, decide_eq_true_eq] at this
  exact this
theorem ziz {r : Repo} {i : Nat} (hi : i < r.Commits.length) : gi r.Commits (i : Int) = some (r.Commits.getD i noCommit) := by
  rw [zd0 (List.getElem?_eq_getElem hi)]
  exact zaf (List.getElem?_eq_getElem hi)
theorem zgF {r : Repo} (h : zae r = true) {x : Head} (hx : x ∈ r.Heads) : 0 ≤ x.At ∧ x.At ≤ (r.Commits.length : Int) - 1 ∧ zaM x.Name = true := by
  obtain ⟨i, hi⟩ := List.mem_iff_getElem?.1 hx
  unfold zae zdy at h
  simp only [Bool.and_eq_true] at h
  have := zaL.1 h.2.2.1 i (Nat.zero_le _) (by have := zau hi; omega)
  unfold zgE upB at this
  rw [zbZ hi] at this
  simp only [Bool.and_eq_true, decide_eq_true_eq] at this
  exact ⟨this.2.1.1, this.2.1.2, this.1⟩
theorem at_range {r : Repo} (h : zae r = true) (n : Str) : atB r n = -1 ∨ (0 ≤ atB r n ∧ atB r n ≤ (r.Commits.length : Int) - 1) := by
  unfold atB
  cases hf : r.Heads.find? (fun h => h.Name == n) with
  | none => exact .inl rfl
  | some x =>
    have := zgF h (List.mem_of_find?_eq_some hf)
    exact .inr ⟨this.1, this.2.1⟩
def zkr (mk : List Bool) (p : Int) : List Bool := mk.set p.toNat true
theorem zgK (mk : List Bool) (p : Int) : (zkr mk p).length = mk.length := by simp [zkr]
theorem zjf : ∀ (ps : List Int) (mk : List Bool), (ps.foldl zkr mk).length = mk.length
  | [], mk => rfl
  | p :: ps, mk => by rw [List.foldl_cons, zjf ps, zgK]
def zjg (r : Repo) (i : Nat) (mk : List Bool) : List Bool := bif mk.getD i false then (zab r i).foldl zkr mk else mk
theorem zft (r : Repo) (i : Nat) (mk : List Bool) : (zjg r i mk).length = mk.length := by
  unfold zjg
  cases mk.getD i false
  · rfl
  · exact zjf _ _
def zeo (r : Repo) : Nat → List Bool → List Bool
  | 0, mk => mk
  | i + 1, mk => zeo r i (zjg r i mk)
theorem zhV (r : Repo) : ∀ (i : Nat) (mk : List Bool), (zeo r i mk).length = mk.length
  | 0, mk => rfl
  | i + 1, mk => by unfold zeo; rw [zhV r i, zft]
def zav (r : Repo) (a : Nat) : List Bool := zeo r (a + 1) ((List.replicate r.Commits.length false).set a true)
theorem zaQ (r : Repo) (a : Nat) : (zav r a).length = r.Commits.length := by unfold zav; rw [zhV]; simp
def zid (mk : List Bool) : List Int := ((List.range mk.length).filter fun i => mk.getD i false).map Int.ofNat
def zaP (r : Repo) (a : Int) : List Int := zid (zav r a.toNat)
theorem zcB {mk : List Bool} {i : Nat} (h : i < mk.length) : gi mk (i : Int) = some (mk.getD i false) := by
  have hx : mk[i]? = some mk[i] := List.getElem?_eq_getElem h
  rw [zaf hx]
  simp [List.getD, hx]
theorem zl6 {mk : List Bool} {p : Int} {i : Nat} (h : mk.getD i false = true) : (zkr mk p).getD i false = true := by
  unfold zkr
  by_cases e : p.toNat = i
  · subst e
    have hl : p.toNat < mk.length := by
      rcases Nat.lt_or_ge p.toNat mk.length with h1 | h1
      · exact h1
      · rw [List.getD, List.getElem?_eq_none (by omega)] at h; simp at h
    simp [List.getD, hl]
  · simp only [List.getD, List.getElem?_set_ne e] at h ⊢
    exact h
theorem zoC {r : Repo} (h : zae r = true) {i : Nat} (hi : i < r.Commits.length) {F : List Bool → Option (List Int)} : ∀ (j k m : Nat) (mk : List Bool), k + j = (zab r i).length → j < m → mk.length = r.Commits.length →
    zcU r (i : Int) (fun _ y27 => F y27) m (k : Int) mk = F (bif mk.getD i false then ((zab r i).drop k).foldl zkr mk else mk)
  | j, k, 0, mk, _, hm, _ => by omega
  | 0, k, m + 1, mk, hk, _, hl => by
    obtain rfl : k = (zab r i).length := by omega
    have e : (r.Commits.getD i noCommit).Parents = zab r i := rfl
    simp only [zcU, jn, ziz hi, Option.bind_some, e, zad, cond_false, List.drop_length, List.foldl_nil]
    cases mk.getD i false <;> rfl
  | j + 1, k, m + 1, mk, hk, hm, hl => by
    have hlt : k < (zab r i).length := by omega
    have hx : (zab r i)[k]? = some (zab r i)[k] := List.getElem?_eq_getElem hlt
    obtain ⟨hs, hp⟩ := zaI h hi
    obtain ⟨p0, p1⟩ := hp _ (List.getElem_mem hlt)
    have e : (r.Commits.getD i noCommit).Parents = zab r i := rfl
    have hn : (((zab r i)[k].toNat : Nat) : Int) = (zab r i)[k] := by omega
    have hg : gi mk (zab r i)[k] = some (mk.getD (zab r i)[k].toNat false) := by
      rw [← hn]
      exact zcB (by omega)
    have hsi : siM mk (zab r i)[k] true = some (zkr mk (zab r i)[k]) := by
      have := zbG (xs := mk) (i := (zab r i)[k].toNat) (by omega) true
      rw [hn] at this
      exact this
    simp only [zcU, jn, ziz hi, Option.bind_some, e, zal hx, cond_true, zcB (show i < mk.length by omega), zaf hx, hg, hsi]
    cases hb : mk.getD i false with
    | false => rfl
    | true =>
      rw [cond_true, cond_true, zac hlt (by unfold maxi; omega), zoC h hi j (k + 1) m _ (by omega) (by omega) (by rw [zgK]; exact hl), zl6 hb, cond_true, List.drop_eq_getElem_cons hlt, List.foldl_cons]
theorem zoD {r : Repo} (h : zae r = true) {F : List Bool → Option (List Int)} : ∀ (i m : Nat) (mk : List Bool), i ≤ r.Commits.length → i < m → mk.length = r.Commits.length →
    zbL r (fun _ y => F y) m ((i : Int) - 1) mk = F (zeo r i mk)
  | i, 0, mk, _, hm, _ => by omega
  | 0, m + 1, mk, _, _, _ => by
    simp only [zbL]
    rw [decide_eq_false (by omega)]
    rfl
  | i + 1, m + 1, mk, hi, hm, hl => by
    have hs := (zag h).1
    have e : (((i + 1 : Nat) : Int)) - 1 = (i : Int) := by omega
    simp only [zbL, jn, e]
    rw [decide_eq_true (by omega), cond_true]
    have hp := (zaI h (show i < r.Commits.length by omega)).1
    have h2 := zoC h (show i < r.Commits.length by omega) (F := fun y27 => zbL r (fun _ y => F y) m (w64 ((i : Int) - 1)) y27) (zab r i).length 0 4 mk (by omega) (by omega) hl
    refine (h2).trans ?_
    rw [zf1 (show i ≤ maxi by unfold maxi; omega)]
    refine (zoD h i m _ (by omega) (by omega) ?_).trans rfl
    have := zft r i mk
    unfold zjg at this
    rw [List.drop_zero, this]
    exact hl
theorem zl7 {mk : List Bool} (hl : mk.length ≤ 1000) : ∀ (k i m : Nat) (out : List Int), i + k = mk.length → k < m → out.length ≤ i →
    zbK mk (fun y69 _ => some y69) m out (i : Int) = some (out ++ ((List.range' i k).filter fun i => mk.getD i false).map Int.ofNat)
  | k, i, 0, out, _, hm, _ => by omega
  | 0, i, m + 1, out, hi, _, _ => by
    obtain rfl : i = mk.length := by omega
    simp only [zbK, zad, cond_false]
    simp
  | k + 1, i, m + 1, out, hi, hm, ho => by
    have hlt : i < mk.length := by omega
    have hx : mk[i]? = some mk[i] := List.getElem?_eq_getElem hlt
    simp only [zbK, jn, zal hx, cond_true, zcB hlt, Option.bind_some, zac hlt (show mk.length ≤ maxi by unfold maxi; omega), ap1 (x := (i : Int)) (show out.length ≤ 1048576 by omega)]
    rw [List.range'_succ, List.filter_cons]
    cases hb : mk.getD i false with
    | true =>
      rw [cond_true, zl7 hl k (i + 1) m _ (by omega) (by omega) (by simp; omega), if_pos rfl]
      simp
    | false =>
      rw [cond_false, zl7 hl k (i + 1) m _ (by omega) (by omega) (by omega), if_neg (by simp)]
theorem zhK {r : Repo} (h : zae r = true) {a : Int} (h0 : 0 ≤ a) (h1 : a ≤ (r.Commits.length : Int) - 1) : zeC r a = some (zaP r a) := by
  have hs := (zag h).1
  obtain ⟨n, rfl⟩ := Int.eq_ofNat_of_zero_le h0
  have hn : n < r.Commits.length := by omega
  have hl : (List.replicate r.Commits.length false).length = r.Commits.length := by simp
  unfold zeC
  rw [zgO (by simp [lim]; omega), Option.bind_some, zcB (by rw [hl]; exact hn), Option.bind_some, zbG (by rw [hl]; exact hn), Option.bind_some]
  simp only [jn, zak]
  have e := zoD h (F := fun y18 => zbK y18 (fun y69 _ => some y69) (y18.length + 1) ([] : List Int) 0) (n + 1) (((n : Int) + 1 - 0).toNat + 1) ((List.replicate r.Commits.length false).set n true) (by omega) (by omega) (by simp)
  rw [show (((n + 1 : Nat) : Int)) - 1 = (n : Int) by omega] at e
  refine e.trans ?_
  have hml := zaQ r n
  unfold zav at hml
  have e3 := zl7 (mk := zeo r (n + 1) ((List.replicate r.Commits.length false).set n true)) (by omega) r.Commits.length 0 (r.Commits.length + 1) [] (by omega) (by omega) (by simp)
  rw [hml]
  refine e3.trans ?_
  unfold zaP zid zav
  rw [Int.toNat_natCast, hml, List.range_eq_range']
  rfl
theorem zaZ {r : Repo} {a x : Int} (h : x ∈ zaP r a) : 0 ≤ x ∧ x ≤ (r.Commits.length : Int) - 1 := by
  unfold zaP zid at h
  rw [zaQ] at h
  obtain ⟨i, hi, rfl⟩ := List.mem_map.1 h
  have := List.mem_range.1 (List.mem_filter.1 hi).1
  constructor
  · exact Int.natCast_nonneg i
  · show (i : Int) ≤ _; omega
theorem zdX (r : Repo) (a : Int) : (zaP r a).length ≤ r.Commits.length := by
  unfold zaP zid
  rw [zaQ, List.length_map]
  exact Nat.le_trans (List.length_filter_le _ _) (by simp)
def zfC (l : List Int) (n : Int) : Bool := l.any fun x => x == n
theorem zks {l : List Int} (hl : l.length ≤ 1000000) (n : Int) : zfn l n = some (zfC l n) := by
  unfold zfn zfC
  simp only [jn, zak]
  rw [zdm (p := fun x : Int => x == n) (xs := l) (r := fun _ => some true) (Z := some false) (f := fun m k => zcV l n _ m false k) (fun m i x hx => by
    simp only [zcV, zal hx, zaf hx, cond_true, Option.bind_some, zac (zau hx) (show l.length ≤ maxi by unfold maxi; omega)]) (fun m => by simp only [zcV, zad, cond_false]) (by omega)]
  cases hf : l.find? (fun x => x == n) with
  | some x =>
    have : l.any (fun x => x == n) = true := List.any_eq_true.2 ⟨x, List.mem_of_find?_eq_some hf, by simpa using List.find?_some hf⟩
    rw [this]
  | none =>
    have : l.any (fun x => x == n) = false := by
      rw [List.any_eq_false]
      intro x hx
      have := List.find?_eq_none.1 hf x hx
      simpa using this
    rw [this]
theorem zik {l : List Int} {i : Nat} (h : i < l.length) : gi l (i : Int) = some (l.getD i 0) := by
  rw [zdg (List.getElem?_eq_getElem h)]
  exact zaf (List.getElem?_eq_getElem h)
def zkF (s : List Str) (p : Part) : Option (List Str) := bif p.Clash then none else some (s ++ p.Lines)
def zfP (ps : List Part) : List Str × Bool := match ps.foldlM zkF [] with
  | some s => okT s
  | none => ([], false)
theorem zl8 {i : Nat} {s s' : List Str} {p : Part} (hp : p.Lines.length ≤ 22000) (hpl : ∀ x ∈ p.Lines, zdz x = true) (hI : ztw i s) (hst : zkF s p = some s') : ztw (i + 1) s' := by
  unfold zkF at hst
  cases hc : p.Clash with
  | true => rw [hc] at hst; cases hst
  | false =>
    rw [hc, cond_false] at hst
    cases hst
    refine ⟨by rw [List.length_append]; have := hI.1; omega, fun x hx => ?_⟩
    rcases List.mem_append.1 hx with h1 | h1
    · exact hI.2 x h1
    · exact hpl x h1
theorem zpe {o a b : List Str} (hto : zaB o = true) (hta : zaB a = true) (htb : zaB b = true) : zg8 (zbw o a b) = some (zfP (zbw o a b)) := by
  obtain ⟨hlen, hparts⟩ := zkS hto hta htb
  unfold zg8 zfP
  simp only [jn, zak]
  obtain ⟨h1, h2⟩ := zkR (xs := zbw o a b) (step := zkF) (r0 := some (([] : List Str), false)) (Inv := ztw) (s0 := []) (Z := fun s => (zdq s).bind fun z30 => bif (!z30) then (some (([] : List Str), false)) else (some (s, true))) (f := fun m s i => zdE (zbw o a b) (fun _ _ y7 _ => (zdq y7).bind fun z30 => bif (!z30) then (some (([] : List Str), false)) else (some (y7, true))) m [] false s i) (fun m i p s hx hI => by
    have hi := zau hx
    obtain ⟨p1, p2, _⟩ := hparts p (List.mem_of_getElem? hx)
    refine ⟨?_, fun s' hst => zl8 p1 p2 hI hst⟩
    have hs := hI.1
    simp only [zdE, zal hx, zaf hx, cond_true, Option.bind_some, zac hi (show (zbw o a b).length ≤ maxi by unfold maxi; omega), apT (show s.length ≤ 1000000 by omega) (show p.Lines.length ≤ 1000000 by omega)]
    unfold zkF
    cases p.Clash <;> rfl) (fun m s hI => by simp only [zdE, zad, cond_false]) (m := (zbw o a b).length + 1) (by omega) ⟨by simp, by simp⟩
  refine h1.trans ?_
  cases hf : (zbw o a b).foldlM zkF [] with
  | none => rfl
  | some s =>
    have hI := h2 s hf
    have hs := hI.1
    show (zdq s).bind _ = some (okT s)
    rw [ziC (zcF (by omega) hI.2), Option.bind_some]
    unfold okT
    cases zaB s <;> rfl
theorem zpf {ps : List Part} : (zfP ps).2 = true → zaB (zfP ps).1 = true := by
  unfold zfP okT
  cases ps.foldlM zkF [] with
  | none => intro h; cases h
  | some s =>
    show (bif zaB s then (s, true) else (([] : List Str), false)).2 = true → zaB (bif zaB s then (s, true) else (([] : List Str), false)).1 = true
    cases ht : zaB s with
    | true => intro _; exact ht
    | false => intro h; cases h
def getT (t : List File) (p : Str) : List Str × Bool := match t.find? (fun f => f.Path == p) with
  | some f => (f.Text, true)
  | none => ([], false)
theorem zgL {t : List File} (h : TB t) (p : Str) : zd4 t p = some (getT t p) := by
  have hm := h.maxi
  unfold zd4 getT
  simp only [jn, zak]
  rw [zdm (p := fun f : File => f.Path == p) (xs := t) (r := fun f => some (f.Text, true)) (Z := some (([] : List Str), false)) (f := fun m k => zcX t p _ m [] false k) (fun m i x hx => by
    simp only [zcX, zal hx, zaf hx, cond_true, Option.bind_some, zac (zau hx) hm]) (fun m => by simp only [zcX, zad, cond_false]) (by omega)]
  cases t.find? (fun f => f.Path == p) <;> rfl
theorem zl9 {t : List File} (h : TB t) (p : Str) : (getT t p).1.length ≤ 1048576 ∧ Bk.fit (getT t p).1 := by
  unfold getT
  cases hf : t.find? (fun f => f.Path == p) with
  | some f =>
    have := h.2 f (List.mem_of_find?_eq_some hf)
    exact ⟨this.len, this.text⟩
  | none => exact ⟨by simp, by simp [maxi], by simp⟩
def zbq (t : List File) : Prop := ∀ f ∈ t, zaB f.Text = true
theorem zbN {t : List File} (h : zbq t) (p : Str) : zaB (getT t p).1 = true := by
  unfold getT
  cases hf : t.find? (fun f => f.Path == p) with
  | some f => exact h f (List.mem_of_find?_eq_some hf)
  | none => rfl
def ziF (a b : List Str × Bool) : Bool := (a.2 == b.2) && (bif a.2 then a.1 == b.1 else true)
theorem zma {a b : List Str × Bool} (h : a.1.length ≤ 1048576) : zfK a.1 a.2 b.1 b.2 = some (ziF a b) := by
  unfold zfK ziF
  simp only [jn, zgj (zas h), Option.bind_some]
  cases a.2 <;> cases b.2 <;> rfl
def oneF (o a b : List File) (p : Str) : List Str × Bool × Int :=
  let zo := getT o p; let za := getT a p; let zb := getT b p
  bif ziF za zo || ziF za zb then (zb.1, zb.2, 0)
  else bif ziF zb zo then (za.1, za.2, 0)
  else bif !za.2 || !zb.2 then (zo.1, zo.2, 1)
  else bif !zo.2 then ([], false, 2)
  else bif (zfP (zbw zo.1 za.1 zb.1)).2 then ((zfP (zbw zo.1 za.1 zb.1)).1, true, 0) else (zo.1, true, 3)
theorem zqE {o a b : List File} (ho : TB o) (ha : TB a) (hb : TB b) (to : zbq o) (ta : zbq a) (tb : zbq b) (p : Str) : zh5 o a b p = some (oneF o a b p) := by
  have eo := zbN to p
  have ea := zbN ta p
  have eb := zbN tb p
  have lo := zar eo
  have la := zar ea
  have lb := zar eb
  unfold zh5 oneF
  simp only [jn, zgL ho, zgL ha, zgL hb, Option.bind_some, zma (a := getT a p) (zl9 ha p).1, zma (a := getT b p) (zl9 hb p).1, zsr (show (getT o p).1.length ≤ 1000 by omega) (show (getT a p).1.length ≤ 1000 by omega) (show (getT b p).1.length ≤ 1000 by omega), zpe eo ea eb]
  cases ziF (getT a p) (getT o p) <;> cases ziF (getT a p) (getT b p) <;> cases ziF (getT b p) (getT o p) <;> cases (getT a p).2 <;> cases (getT b p).2 <;> cases (getT o p).2 <;> cases (zfP (zbw (getT o p).1 (getT a p).1 (getT b p).1)).2 <;> rfl
theorem zmb {o a b : List File} (to : zbq o) (ta : zbq a) (tb : zbq b) (p : Str) : zaB (oneF o a b p).1 = true := by
  have eo := zbN to p
  have ea := zbN ta p
  have eb := zbN tb p
  unfold oneF
  simp only
  cases ziF (getT a p) (getT o p) || ziF (getT a p) (getT b p) with
  | true => exact eb
  | false =>
    cases ziF (getT b p) (getT o p) with
    | true => exact ea
    | false =>
      cases !(getT a p).2 || !(getT b p).2 with
      | true => exact eo
      | false =>
        cases !(getT o p).2 with
        | true => rfl
        | false =>
          cases hl : (zfP (zbw (getT o p).1 (getT a p).1 (getT b p).1)).2 with
          | true => exact zpf hl
          | false => exact eo
def zdn (o a b : List File) : List Str := (b.map (·.Path)).foldl zgQ ((a.map (·.Path)).foldl zgQ ((o.map (·.Path)).foldl zgQ []))
theorem zfV : ∀ (ps : List Str) (l : List Str), Asd l → Asd (ps.foldl zgQ l)
  | [], l, h => h
  | p :: ps, l, h => zfV ps _ (zdx _ _)
theorem zfW : ∀ (ps : List Str) (l : List Str), (ps.foldl zgQ l).length ≤ l.length + ps.length
  | [], l => by simp
  | p :: ps, l => by
    have h1 := zfW ps (zgQ l p)
    have h2 := zdW l p
    simp only [List.foldl_cons, List.length_cons]
    omega
theorem zil : ∀ (ps : List Str) (l : List Str) (x : Str), x ∈ ps.foldl zgQ l ↔ x ∈ l ∨ x ∈ ps
  | [], l, x => by simp
  | p :: ps, l, x => by
    rw [List.foldl_cons, zil ps, insS_mem, List.mem_cons]
    constructor
    · rintro ((h | h) | h)
      · exact .inl h
      · exact .inr (.inl h)
      · exact .inr (.inr h)
    · rintro (h | h | h)
      · exact .inl (.inl h)
      · exact .inl (.inr h)
      · exact .inr h
theorem zhk {t : List File} (h : TB t) (ht : t.length ≤ 1000) {f : Nat → List Str → Int → Option (List Str)} {Z : List Str → Option (List Str)}
    (hs : ∀ m (i : Nat) x acc, t[i]? = some x → f (m + 1) acc (i : Int) = (zdu acc x.Path).bind fun z => f m z (w64 ((i : Int) + 1))) (he : ∀ m acc, f (m + 1) acc (t.length : Int) = Z acc) : ∀ (k i m : Nat) (acc : List Str), i + k = t.length → k < m → Asd acc → acc.length ≤ 10000 + i →
    f m acc (i : Int) = Z (((t.drop i).map (·.Path)).foldl zgQ acc)
  | k, i, 0, acc, _, hm, _, _ => by omega
  | 0, i, m + 1, acc, hi, _, _, _ => by
    obtain rfl : i = t.length := by omega
    rw [he, List.drop_length]; rfl
  | k + 1, i, m + 1, acc, hi, hm, ha, hl => by
    have hlt : i < t.length := by omega
    have hx : t[i]? = some t[i] := List.getElem?_eq_getElem hlt
    have hil := zdW acc t[i].Path
    rw [hs m i _ acc hx, zi0 (by omega) ha, Option.bind_some, zac hlt h.maxi, zhk h ht hs he k (i + 1) m _ (by omega) (by omega) (zdx _ _) (by omega), List.drop_eq_getElem_cons hlt]
    rfl
theorem zn8 {o a b : List File} (ho : TB o) (ha : TB a) (hb : TB b) (so : o.length ≤ 100) (sa : a.length ≤ 100) (sb : b.length ≤ 100) : zf3 o a b = some (zdn o a b) := by
  unfold zf3 zdn
  simp only [jn, zak]
  have l1 := zfW (o.map (·.Path)) []
  have l2 := zfW (a.map (·.Path)) ((o.map (·.Path)).foldl zgQ [])
  have a0 : Asd ([] : List Str) := List.Pairwise.nil
  have a1 := zfV (o.map (·.Path)) [] a0
  have a2 := zfV (a.map (·.Path)) _ a1
  simp only [List.length_map, List.length_nil] at l1 l2
  have e3 := fun acc (h1 : Asd acc) (h2 : acc.length ≤ 10000) => zhk hb (by omega) (f := fun m acc i => za1 b (fun y40 _ => some y40) m acc i) (Z := fun acc => some acc) (fun m i x acc hx => by simp only [za1, zal hx, zaf hx, cond_true, Option.bind_some]) (fun m acc => by simp only [za1, zad, cond_false]) b.length 0 (b.length + 1) acc (by omega) (by omega) h1 (by omega)
  have e2 := fun acc (h1 : Asd acc) (h2 : acc.length ≤ 10000) => zhk ha (by omega) (f := fun m acc i => zbE a (fun y23 _ => za1 b (fun y40 _ => some y40) (b.length + 1) y23 0) m acc i) (Z := fun acc => za1 b (fun y40 _ => some y40) (b.length + 1) acc 0) (fun m i x acc hx => by simp only [zbE, zal hx, zaf hx, cond_true, Option.bind_some]) (fun m acc => by simp only [zbE, zad, cond_false]) a.length 0 (a.length + 1) acc (by omega) (by omega) h1 (by omega)
  have e1 := fun acc (h1 : Asd acc) (h2 : acc.length ≤ 10000) => zhk ho (by omega) (f := fun m acc i => zc7 o (fun y6 _ => zbE a (fun y23 _ => za1 b (fun y40 _ => some y40) (b.length + 1) y23 0) (a.length + 1) y6 0) m acc i) (Z := fun acc => zbE a (fun y23 _ => za1 b (fun y40 _ => some y40) (b.length + 1) y23 0) (a.length + 1) acc 0) (fun m i x acc hx => by simp only [zc7, zal hx, zaf hx, cond_true, Option.bind_some]) (fun m acc => by simp only [zc7, zad, cond_false]) o.length 0 (o.length + 1) acc (by omega) (by omega) h1 (by omega)
  refine (e1 [] a0 (by simp)).trans ?_
  rw [List.drop_zero]
  refine (e2 _ a1 (by omega)).trans ?_
  rw [List.drop_zero]
  refine (e3 _ a2 (by omega)).trans ?_
  rw [List.drop_zero]
theorem ziG (o a b : List File) : (zdn o a b).length ≤ o.length + a.length + b.length := by
  unfold zdn
  have l1 := zfW (o.map (·.Path)) []
  have l2 := zfW (a.map (·.Path)) ((o.map (·.Path)).foldl zgQ [])
  have l3 := zfW (b.map (·.Path)) ((a.map (·.Path)).foldl zgQ ((o.map (·.Path)).foldl zgQ []))
  simp only [List.length_map, List.length_nil] at l1 l2 l3
  omega
theorem pathsF_mem {o a b : List File} {x : Str} : x ∈ zdn o a b ↔ (∃ f ∈ o, f.Path = x) ∨ (∃ f ∈ a, f.Path = x) ∨ (∃ f ∈ b, f.Path = x) := by
  unfold zdn
  rw [zil, zil, zil]
  simp only [List.mem_map, List.not_mem_nil, false_or]
  constructor
  · rintro ((h | h) | h)
    · exact .inl h
    · exact .inr (.inl h)
    · exact .inr (.inr h)
  · rintro (h | h | h)
    · exact .inl (.inl h)
    · exact .inl (.inr h)
    · exact .inr h
def zkG (o a b : List File) (p : Str) : Option File := bif (oneF o a b p).2.1 then some ⟨p, (oneF o a b p).1⟩ else none
def zjh (o a b : List File) (p : Str) : Option Clash := bif decide (0 < (oneF o a b p).2.2) then some ⟨p, (oneF o a b p).2.2⟩ else none
def zhx (o a b : List File) : List File := (zdn o a b).filterMap (zkG o a b)
def zhW (o a b : List File) : List Clash := (zdn o a b).filterMap (zjh o a b)
theorem zmc {o a b : List File} (ho : TB o) (ha : TB a) (hb : TB b) (to : zbq o) (ta : zbq a) (tb : zbq b) {ps : List Str} (hp : ps.length ≤ 1000) : ∀ (k i m : Nat) (fs : List File) (cs : List Clash), i + k = ps.length → k < m → fs.length ≤ i → cs.length ≤ i →
    ze1 o a b ps (fun y16 y19 _ => some (y16, y19)) m fs cs (i : Int) = some (fs ++ (ps.drop i).filterMap (zkG o a b), cs ++ (ps.drop i).filterMap (zjh o a b))
  | k, i, 0, fs, cs, _, hm, _, _ => by omega
  | 0, i, m + 1, fs, cs, hi, _, _, _ => by
    obtain rfl : i = ps.length := by omega
    simp only [ze1, zad, cond_false, List.drop_length]
    simp
  | k + 1, i, m + 1, fs, cs, hi, hm, hf, hc => by
    have hlt : i < ps.length := by omega
    have hx : ps[i]? = some ps[i] := List.getElem?_eq_getElem hlt
    have ih := fun fs cs h1 h2 => zmc ho ha hb to ta tb hp k (i + 1) m fs cs (by omega) (by omega) h1 h2
    have ht := zar (zmb to ta tb ps[i])
    simp only [ze1, jn, zal hx, zaf hx, cond_true, Option.bind_some, zac hlt (show ps.length ≤ maxi by unfold maxi; omega), zqE ho ha hb to ta tb, apN (show (oneF o a b ps[i]).1.length ≤ 1048576 by omega), ap1 (x := (⟨ps[i], (oneF o a b ps[i]).1⟩ : File)) (show fs.length ≤ 1048576 by omega), ap1 (x := (⟨ps[i], (oneF o a b ps[i]).2.2⟩ : Clash)) (show cs.length ≤ 1048576 by omega)]
    rw [List.drop_eq_getElem_cons hlt, List.filterMap_cons, List.filterMap_cons]
    unfold zkG zjh at ih ⊢
    cases (oneF o a b ps[i]).2.1 <;> cases decide (0 < (oneF o a b ps[i]).2.2) <;> simp only [cond_true, cond_false]
    · rw [ih _ _ (by omega) (by omega)]
    · rw [ih _ _ (by omega) (by simp; omega)]; simp
    · rw [ih _ _ (by simp; omega) (by omega)]; simp
    · rw [ih _ _ (by simp; omega) (by simp; omega)]; simp
theorem zss {o a b : List File} (ho : TB o) (ha : TB a) (hb : TB b) (to : zbq o) (ta : zbq a) (tb : zbq b) (so : o.length ≤ 100) (sa : a.length ≤ 100) (sb : b.length ≤ 100) : zjs o a b = some (zhx o a b, zhW o a b) := by
  have hl := ziG o a b
  unfold zjs
  rw [zn8 ho ha hb so sa sb, Option.bind_some]
  simp only [jn, zak]
  have := zmc ho ha hb to ta tb (ps := zdn o a b) (by omega) (zdn o a b).length 0 ((zdn o a b).length + 1) [] [] (by omega) (by omega) (by simp) (by simp)
  refine this.trans ?_
  simp [zhx, zhW]
theorem zjU {o a b : List File} (ho : TB o) (ha : TB a) (hb : TB b) (to : zbq o) (ta : zbq a) (tb : zbq b) (so : o.length ≤ 100) (sa : a.length ≤ 100) (sb : b.length ≤ 100) : TB (zhx o a b) := by
  have hl := ziG o a b
  refine ⟨Nat.le_trans (List.length_filterMap_le _ _) (by omega), fun f hf => ?_⟩
  obtain ⟨p, hp, he⟩ := List.mem_filterMap.1 hf
  unfold zkG at he
  cases h2 : (oneF o a b p).2.1 with
  | false => rw [h2] at he; cases he
  | true =>
    rw [h2, cond_true] at he
    cases he
    have ht := zmb to ta tb p
    have hlen := zar ht
    refine ⟨?_, by show (oneF o a b p).1.length ≤ _; omega, zcF (s := (oneF o a b p).1) (by omega) (zaX ht)⟩
    rcases pathsF_mem.1 hp with ⟨g, hg, e⟩ | ⟨g, hg, e⟩ | ⟨g, hg, e⟩
    · rw [← e]; exact (ho.2 g hg).path
    · rw [← e]; exact (ha.2 g hg).path
    · rw [← e]; exact (hb.2 g hg).path
def zec (o a b : List File) : List File × List Clash := bif ((zhW o a b).length : Int) == 0 && !zaJ (zhx o a b) then (o, [⟨[], 4⟩]) else (zhx o a b, zhW o a b)
theorem zpg {o a b : List File} (ho : TB o) (ha : TB a) (hb : TB b) (to : zbq o) (ta : zbq a) (tb : zbq b) (so : o.length ≤ 100) (sa : a.length ≤ 100) (sb : b.length ≤ 100) : zg9 o a b = some (zec o a b) := by
  unfold zg9 zec
  simp only [jn, zss ho ha hb to ta tb so sa sb, Option.bind_some, znf (zjU ho ha hb to ta tb so sa sb), zl2 ho]
  cases (((zhW o a b).length : Int) == 0) <;> cases zaJ (zhx o a b) <;> rfl
theorem zmS {o a b : List File} (ho : TB o) (ha : TB a) (hb : TB b) (to : zbq o) (ta : zbq a) (tb : zbq b) (so : o.length ≤ 100) (sa : a.length ≤ 100) (sb : b.length ≤ 100) : TB (zec o a b).1 := by
  unfold zec
  cases (((zhW o a b).length : Int) == 0 && !zaJ (zhx o a b))
  · exact zjU ho ha hb to ta tb so sa sb
  · exact ho
theorem zam {t : List File} (h : zaJ t = true) : zbq t := by
  intro f hf
  obtain ⟨i, hi⟩ := List.mem_iff_getElem?.1 hf
  unfold zaJ at h
  simp only [Bool.and_eq_true] at h
  have := zaL.1 h.2 i (Nat.zero_le _) (by have := zau hi; omega)
  unfold zhj zhi at this
  rw [zbY hi] at this
  simp only [Bool.and_eq_true] at this
  exact this.1.2.1
theorem zbB {t : List File} (h : zaJ t = true) {f : File} (hf : f ∈ t) : zaY f.Path = true := by
  obtain ⟨i, hi⟩ := List.mem_iff_getElem?.1 hf
  unfold zaJ at h
  simp only [Bool.and_eq_true] at h
  have := zaL.1 h.2 i (Nat.zero_le _) (by have := zau hi; omega)
  unfold zhj zhi at this
  rw [zbY hi] at this
  simp only [Bool.and_eq_true] at this
  exact this.1.1
theorem zim (c : UInt8) : ∀ (r w : Str), w.length + r.length + 1 = sumB (fun p => p.length + 1) (curS c w r)
  | [], w => by simp [curS, sumB]
  | x :: r, w => by
    unfold curS
    cases x == c with
    | true =>
      rw [cond_true]
      have := zim c r []
      simp only [sumB, List.length_nil, List.length_cons] at this ⊢
      omega
    | false =>
      rw [cond_false]
      have := zim c r (w ++ [x])
      simp only [List.length_append, List.length_cons, List.length_nil] at this ⊢
      omega
theorem zoE {c : Nat} : ∀ {l : List Str}, (∀ p ∈ l, p.length + 1 ≤ c) → sumB (fun p => p.length + 1) l ≤ c * l.length
  | [], _ => by simp [sumB]
  | x :: l, h => by
    have h1 := h x (by simp)
    have h2 := zoE (c := c) (l := l) (fun p hp => h p (List.mem_cons_of_mem _ hp))
    simp only [sumB, List.length_cons, Nat.mul_add, Nat.mul_one]
    omega
theorem zdK {s : Str} (h : zaM s = true) : s.length ≤ 6 := by
  unfold zaM at h
  simp only [Bool.and_eq_true, decide_eq_true_eq] at h
  omega
theorem zeA {s : Str} (h : zaY s = true) : s.length ≤ 20 := by
  unfold zaY at h
  simp only [Bool.and_eq_true, decide_eq_true_eq, List.all_eq_true] at h
  have h1 := zim 47 s []
  have h2 := zoE (c := 7) (l := curS 47 [] s) (fun p hp => by have := zdK (h.2 p hp); omega)
  simp only [List.length_nil] at h1
  omega
structure Gd (q : Prop) (r : Repo) : Prop where
  rb : RpB r
  ok : zae r = true
  hd : q → r.Commits ≠ [] → r.Heads ≠ []
variable {q : Prop}
def zaA (r : Repo) (i : Nat) : List File := (r.Commits.getD i noCommit).Tree
theorem Gd.tree {r : Repo} (h : Gd q r) {i : Nat} (hi : i < r.Commits.length) : TB (zaA r i) ∧ zaJ (zaA r i) = true ∧ zbq (zaA r i) ∧ (zaA r i).length ≤ 8 := by
  have hx : r.Commits[i]? = some r.Commits[i] := List.getElem?_eq_getElem hi
  have h1 : zaJ (zaA r i) = true := by
    have := zfS h.ok hi
    unfold zli at this
    simp only [Bool.and_eq_true] at this
    exact this.2.2.2.2
  refine ⟨?_, h1, zam h1, zaG h1⟩
  unfold zaA
  rw [zd0 hx]
  exact (h.rb.cat hx).tree
theorem zi1 : TB ([] : List File) ∧ zaJ [] = true ∧ zbq [] ∧ ([] : List File).length ≤ 8 := ⟨TB.nil, rfl, fun f hf => by simp at hf, by simp⟩
theorem zeD {r : Repo} {z : Int} (h0 : 0 ≤ z) (h1 : z ≤ (r.Commits.length : Int) - 1) : gi r.Commits z = some (r.Commits.getD z.toNat noCommit) := by
  obtain ⟨n, rfl⟩ := Int.eq_ofNat_of_zero_le h0
  exact ziz (by omega)
theorem zkH (n : Str) (a : Int) : ∀ (hs : List Head), zeY n a false hs ≠ []
  | [] => by simp [zeY]
  | h :: hs => by
    unfold zeY
    cases hb : Op.bytesLess h.Name n
    · simp
    · have := zkH n a hs
      cases (h.Name != n) <;> simp [this]
def zgG (n : Str) (a : Int) (h : Head) : Head := bif h.Name == n then ⟨n, a⟩ else h
theorem zjV (n : Str) (a : Int) : ∀ (hs : List Head), (∀ h ∈ hs, h.Name ≠ n) → zeY n a true hs = hs
  | [], _ => rfl
  | h :: hs, hn => by
    have h1 : (h.Name != n) = true := by simpa using hn h (by simp)
    unfold zeY
    rw [h1, Bool.true_or, zjV n a hs (fun x hx => hn x (List.mem_cons_of_mem _ hx))]
    rfl
theorem ziH (n : Str) (a : Int) : ∀ (hs : List Head), hs.Pairwise (fun x y => x.Name < y.Name) → (∃ h ∈ hs, h.Name = n) → zeY n a false hs = hs.map (zgG n a)
  | [], _, h => by obtain ⟨x, hx, _⟩ := h; simp at hx
  | h :: hs, hp, he => by
    obtain ⟨p1, p2⟩ := List.pairwise_cons.1 hp
    unfold zeY
    rw [List.map_cons]
    cases hb : Op.bytesLess h.Name n with
    | true =>
      rw [za6] at hb
      have hlt : h.Name < n := by simpa using hb
      have hne : h.Name ≠ n := fun e => by rw [e] at hlt; exact zan _ hlt
      have h1 : (h.Name != n) = true := by simpa using hne
      have h2 : (h.Name == n) = false := beq_false_of_ne hne
      have ht : ∃ x ∈ hs, x.Name = n := by
        obtain ⟨x, hx, e⟩ := he
        rcases List.mem_cons.1 hx with e2 | e2
        · rw [e2] at e; exact absurd e hne
        · exact ⟨x, e2, e⟩
      rw [h1]
      simp only [Bool.not_true, Bool.and_false, cond_false, cond_true, List.nil_append, Bool.or_false, List.singleton_append]
      rw [ziH n a hs p2 ht]
      unfold zgG
      rw [h2]
      rfl
    | false =>
      rw [za6] at hb
      have hge : n ≤ h.Name := zii.1 (by simpa using hb)
      cases h2 : h.Name == n with
      | true =>
        have e : h.Name = n := by simpa using h2
        have h1 : (h.Name != n) = false := by rw [bne, h2]; rfl
        have hno : ∀ x ∈ hs, x.Name ≠ n := fun x hx e2 => by
          have := p1 x hx
          rw [e, e2] at this
          exact zan _ this
        rw [h1, Bool.not_false, Bool.or_true, zjV n a hs hno]
        have hm : hs.map (zgG n a) = hs := by
          conv => rhs; rw [← List.map_id hs]
          refine List.map_congr_left (fun x hx => ?_)
          unfold zgG
          rw [beq_false_of_ne (hno x hx)]
          rfl
        rw [hm]
        unfold zgG
        rw [h2]
        rfl
      | false =>
        exfalso
        have hne : n ≠ h.Name := fun e => by rw [e] at h2; simp at h2
        have hlt := zbX hge hne
        obtain ⟨x, hx, e⟩ := he
        rcases List.mem_cons.1 hx with e2 | e2
        · rw [e2] at e; exact hne e.symm
        · have := p1 x e2
          rw [e] at this
          exact zan _ (zbb hlt this)
theorem zji {r : Repo} (h : zae r = true) : r.Heads.Pairwise (fun x y => x.Name < y.Name) := by
  unfold zae zdy at h
  simp only [Bool.and_eq_true] at h
  have hg := zaL.1 h.2.2.1
  have step : ∀ i, (hi : i + 1 < r.Heads.length) → (r.Heads[i]'(by omega)).Name < r.Heads[i + 1].Name := fun i hi => by
    have := hg (i + 1) (by omega) (by omega)
    unfold zgE at this
    rw [zbZ (List.getElem?_eq_getElem hi), decide_eq_true (by omega), Nat.add_sub_cancel, zbZ (List.getElem?_eq_getElem (show i < r.Heads.length by omega))] at this
    simp only [cond_true, Bool.and_eq_true, za6, decide_eq_true_eq] at this
    exact this.2.2
  refine List.pairwise_iff_getElem.2 fun i j hi hj hij => ?_
  induction j with
  | zero => omega
  | succ j ih =>
    rcases Nat.lt_or_ge i j with h1 | h1
    · exact zbb (ih (by omega) h1) (step j hj)
    · have : i = j := by omega
      subst this
      exact step i hj
theorem znF {r : Repo} {n : Str} (h : 0 ≤ atB r n) : ∃ x ∈ r.Heads, x.Name = n := by
  unfold atB at h
  cases hf : r.Heads.find? (fun h => h.Name == n) with
  | none => rw [hf] at h; simp at h
  | some x => exact ⟨x, List.mem_of_find?_eq_some hf, by simpa using List.find?_some hf⟩
theorem zlm {r : Repo} (h : zae r = true) {n : Str} (ha : 0 ≤ atB r n) (b : Int) : headR r n b = ⟨r.Commits, r.Heads.map (zgG n b)⟩ := by
  unfold headR
  rw [ziH n b r.Heads (zji h) (znF ha)]
theorem zqF {r : Repo} (h : zae r = true) {n : Str} (ha : 0 ≤ atB r n) {b : Int} (h0 : 0 ≤ b) (h1 : b ≤ (r.Commits.length : Int) - 1) : zae (headR r n b) = true := by
  rw [zlm h ha]
  have hh := h
  unfold zae zdy at h ⊢
  simp only [Bool.and_eq_true, List.length_map] at h ⊢
  refine ⟨h.1, h.2.1, ?_, h.2.2.2⟩
  have hg := zaL.1 h.2.2.1
  refine zaL.2 fun i hi0 hi => ?_
  have hil : i < r.Heads.length := by omega
  have hx : r.Heads[i]? = some r.Heads[i] := List.getElem?_eq_getElem hil
  have hm : ∀ j, j < r.Heads.length → ((r.Heads.map (zgG n b)).getD j zfO).Name = (r.Heads.getD j zfO).Name := fun j hj => by
    have hxj : r.Heads[j]? = some r.Heads[j] := List.getElem?_eq_getElem hj
    rw [zbZ hxj, zbZ (f := zgG n b r.Heads[j]) (by rw [List.getElem?_map, hxj]; rfl)]
    unfold zgG
    cases he : r.Heads[j].Name == n with
    | true => simpa using (by simpa using he : r.Heads[j].Name = n).symm
    | false => rfl
  have hat : upB r.Commits.length ((r.Heads.map (zgG n b)).getD i zfO).At = true := by
    rw [zbZ (f := zgG n b r.Heads[i]) (by rw [List.getElem?_map, hx]; rfl)]
    unfold zgG upB
    cases r.Heads[i].Name == n with
    | true => simp [h0, h1]
    | false =>
      have := zgF hh (List.getElem_mem hil)
      simp [this.1, this.2.1]
  have := hg i hi0 (by omega)
  unfold zgE at this ⊢
  simp only [Bool.and_eq_true] at this ⊢
  refine ⟨by rw [hm i hil]; exact this.1, hat, ?_⟩
  rw [hm i hil, hm (i - 1) (by omega)]
  exact this.2.2
def zgM (r : Repo) (n : Str) (c : Commit) : Repo × Int := bif zae (addR r n c) then (addR r n c, 0) else (r, 5)
theorem Gd.add {r : Repo} (h : Gd q r) {n : Str} {c : Commit} (hn : n.length ≤ 1048576) (hc : CB c) (ho : zae (addR r n c) = true) : Gd q (addR r n c) := by
  obtain ⟨s1, s2⟩ := zag h.ok
  exact ⟨h.rb.addR (by omega) (by omega) hn hc, ho, fun _ _ => zkH _ _ _⟩
theorem Gd.head {r : Repo} (h : Gd q r) {n : Str} {b : Int} (hn : n.length ≤ 1048576) (ho : zae (headR r n b) = true) : Gd q (headR r n b) := by
  obtain ⟨s1, s2⟩ := zag h.ok
  exact ⟨h.rb.headR (by omega) hn b, ho, fun _ _ => zkH _ _ _⟩
theorem zng {r : Repo} (h : Gd q r) {n : Str} {c : Commit} (hn : n.length ≤ 1048576) (hc : CB c) : Gd q (zgM r n c).1 := by
  unfold zgM
  cases ho : zae (addR r n c) with
  | true => exact h.add hn hc ho
  | false => exact h
theorem zph {r : Repo} (h : Gd q r) {n : Str} {c : Commit} (hn : n.length ≤ 1048576) (hc : CB c) : ((zgy r n c).bind fun z130 => (zfg z130).bind fun z163 => bif (!z163) then (some (r, (5 : Int))) else (some (z130, 0))) = some (zgM r n c) := by
  obtain ⟨s1, s2⟩ := zag h.ok
  rw [zqD h.rb (by omega) (by omega) n hc, Option.bind_some, zkD (h.rb.addR (by omega) (by omega) hn hc), Option.bind_some]
  unfold zgM
  cases zae (addR r n c) <;> rfl
def zn9 (r : Repo) (n who : Str) (b : Int) : Bool := decide (atB r n < 0) || (!zaM who || !upB r.Commits.length b)
theorem zqG {r : Repo} {n who : Str} {b : Int} (h : zn9 r n who b = false) : 0 ≤ atB r n ∧ 0 ≤ b ∧ b ≤ (r.Commits.length : Int) - 1 := by
  unfold zn9 upB at h
  simp only [Bool.or_eq_false_iff, decide_eq_false_iff_not, Bool.not_eq_false', Bool.and_eq_true, decide_eq_true_eq] at h
  omega
def zdZ (r : Repo) (i : Nat) : List File := bif ((zab r i).length : Int) == 0 then [] else zaA r ((zab r i).getD 0 0).toNat
theorem zjW {r : Repo} (h : Gd q r) {a : Int} (h0 : 0 ≤ a) (h1 : a ≤ (r.Commits.length : Int) - 1) : zdf r a = some (zdZ r a.toNat) ∧ TB (zdZ r a.toNat) ∧ zaJ (zdZ r a.toNat) = true := by
  have hi : a.toNat < r.Commits.length := by omega
  obtain ⟨ps, pm⟩ := zaI h.ok hi
  unfold zdf zdZ
  rw [zeD h0 h1, Option.bind_some]
  show (bif ((zab r a.toNat).length : Int) == 0 then _ else _) = _ ∧ _
  cases hz : ((zab r a.toNat).length : Int) == 0 with
  | true => exact ⟨rfl, zi1.1, zi1.2.1⟩
  | false =>
    have hne : ((zab r a.toNat).length : Int) ≠ 0 := by simpa using hz
    have hlt : 0 < (zab r a.toNat).length := by omega
    have hm : (zab r a.toNat).getD 0 0 ∈ zab r a.toNat := by
      rw [zdg (List.getElem?_eq_getElem hlt)]; exact List.getElem_mem hlt
    obtain ⟨q0, q1⟩ := pm _ hm
    have hg : gi (r.Commits.getD a.toNat noCommit).Parents 0 = some ((zab r a.toNat).getD 0 0) := zik (l := zab r a.toNat) hlt
    rw [cond_false, cond_false, Option.bind_some, hg, Option.bind_some, zeD q0 (by omega), Option.bind_some]
    have := h.tree (i := ((zab r a.toNat).getD 0 0).toNat) (by omega)
    exact ⟨rfl, this.1, this.2.1⟩
def zgZ (r : Repo) (n who : Str) (o b : List File) : Repo × Int :=
  let j := zec o (zaA r (atB r n).toNat) b
  bif decide (0 < (j.2.length : Int)) then (r, 4) else zgM r n ⟨[atB r n], who, j.1⟩
theorem zpi {r : Repo} (h : Gd q r) {n who : Str} {o b : List File} (hn : n.length ≤ 1048576) (hw : who.length ≤ 1048576) (ha : 0 ≤ atB r n) (to : TB o) (to2 : zaJ o = true) (tb : TB b) (tb2 : zaJ b = true) : zeI r n who o b = some (zgZ r n who o b) ∧ Gd q (zgZ r n who o b).1 := by
  have ha' : atB r n ≤ (r.Commits.length : Int) - 1 := by rcases at_range h.ok n with e | e <;> omega
  have hs := (zag h.ok).1
  obtain ⟨ta, ta2, ta3, ta4⟩ := h.tree (i := (atB r n).toNat) (by omega)
  have ho := zaG to2
  have hb := zaG tb2
  have hj := zmS to ta tb (zam to2) ta3 (zam tb2) (by omega) (by omega) (by omega)
  have hc : CB ⟨[atB r n], who, (zec o (zaA r (atB r n).toNat) b).1⟩ := ⟨by simp, hw, hj⟩
  have hjoin := zpg to ta tb (zam to2) ta3 (zam tb2) (by omega) (by omega) (by omega)
  unfold zeI zgZ
  rw [zkE h.rb, Option.bind_some, zeD ha ha', Option.bind_some]
  unfold zaA at hjoin hc ⊢
  rw [hjoin, Option.bind_some]
  simp only
  cases decide (0 < ((zec o (r.Commits.getD (atB r n).toNat noCommit).Tree b).2.length : Int)) with
  | true => exact ⟨rfl, h⟩
  | false => exact ⟨zph h hn hc, zng h hn hc⟩
end Go.Vm
namespace Go.Vm
open Go Go.Sx
set_option linter.unusedSimpArgs false
set_option linter.unusedVariables false
section
variable {r : l30Rd} {p : Int}
structure Drawn (r : Repo) : Prop where
  rb : RpB r
  coms : r.Commits.length ≤ 16
  heads : r.Heads.length ≤ 6
theorem Gd.drawn {r : Repo} (h : Gd True r) : Drawn r := by
  obtain ⟨s1, s2⟩ := zag h.ok
  exact ⟨h.rb, s1, by omega⟩
end
inductive Rc (r : Repo) : Nat → Nat → Prop
  | refl (a : Nat) : Rc r a a
  | step {a b : Nat} {p : Int} : Rc r a b → p ∈ zab r b → Rc r a p.toNat
theorem Rc.trans {r : Repo} {a b c : Nat} (h : Rc r a b) (k : Rc r b c) : Rc r a c := by
  induction k with
  | refl => exact h
  | step _ hp ih => exact Rc.step ih hp
theorem Rc.head {r : Repo} {a c : Nat} (h : Rc r a c) : c = a ∨ ∃ p ∈ zab r a, Rc r p.toNat c := by
  induction h with
  | refl => exact .inl rfl
  | @step b p hb hp ih =>
    rcases ih with e | ⟨q, hq, hc⟩
    · subst e
      exact .inr ⟨p, hp, Rc.refl _⟩
    · exact .inr ⟨q, hq, Rc.step hc hp⟩
theorem Rc.le {r : Repo} (hr : zae r = true) {a c : Nat} (ha : a < r.Commits.length) (h : Rc r a c) : c ≤ a ∧ c < r.Commits.length := by
  induction h with
  | refl => exact ⟨Nat.le_refl _, ha⟩
  | step _ hp ih =>
    have := (zaI hr ih.2).2 _ hp
    omega
def mkd (mk : List Bool) (j : Nat) : Prop := mk.getD j false = true
theorem zjC {mk : List Bool} {j : Nat} (h : mkd mk j) : j < mk.length := by
  unfold mkd at h
  rcases Nat.lt_or_ge j mk.length with h1 | h1
  · exact h1
  · rw [List.getD, List.getElem?_eq_none (by omega)] at h; simp at h
theorem zkt {mk : List Bool} {p : Int} {j : Nat} : mkd (zkr mk p) j ↔ mkd mk j ∨ (j = p.toNat ∧ j < mk.length) := by
  unfold mkd zkr
  by_cases e : p.toNat = j
  · subst e
    by_cases hl : p.toNat < mk.length
    · simp [List.getD, hl]
    · rw [List.set_eq_of_length_le (by omega)]
      simp [hl]
  · simp only [List.getD, List.getElem?_set_ne e]
    constructor
    · exact .inl
    · rintro (h | ⟨h, _⟩)
      · exact h
      · exact absurd h.symm e
theorem zjj : ∀ (ps : List Int) (mk : List Bool) (j : Nat), mkd (ps.foldl zkr mk) j ↔ mkd mk j ∨ (∃ p ∈ ps, j = p.toNat ∧ j < mk.length)
  | [], mk, j => by simp
  | p :: ps, mk, j => by
    rw [List.foldl_cons, zjj ps, zkt, zgK]
    constructor
    · rintro ((h | h) | ⟨q, hq, h⟩)
      · exact .inl h
      · exact .inr ⟨p, by simp, h⟩
      · exact .inr ⟨q, List.mem_cons_of_mem _ hq, h⟩
    · rintro (h | ⟨q, hq, h⟩)
      · exact .inl (.inl h)
      · rcases List.mem_cons.1 hq with e | e
        · subst e; exact .inl (.inr h)
        · exact .inr ⟨q, e, h⟩
theorem stepM_mkd {r : Repo} {i : Nat} {mk : List Bool} {j : Nat} : mkd (zjg r i mk) j ↔ mkd mk j ∨ (mkd mk i ∧ ∃ p ∈ zab r i, j = p.toNat ∧ j < mk.length) := by
  unfold zjg
  cases hb : mk.getD i false with
  | true =>
    rw [cond_true, zjj]
    constructor
    · rintro (h | h)
      · exact .inl h
      · exact .inr ⟨hb, h⟩
    · rintro (h | ⟨_, h⟩)
      · exact .inl h
      · exact .inr h
  | false =>
    rw [cond_false]
    constructor
    · exact .inl
    · rintro (h | ⟨h, _⟩)
      · exact h
      · unfold mkd at h; rw [hb] at h; cases h
def zt4 (r : Repo) (a i : Nat) (mk : List Bool) : Prop := (∀ j, mkd mk j → Rc r a j) ∧ mkd mk a ∧ ∀ j, i ≤ j → mkd mk j → ∀ p ∈ zab r j, mkd mk p.toNat
theorem zhX {r : Repo} (hr : zae r = true) {a : Nat} : ∀ (i : Nat) (mk : List Bool), i ≤ r.Commits.length → mk.length = r.Commits.length → zt4 r a i mk → zt4 r a 0 (zeo r i mk)
  | 0, mk, _, _, h => h
  | i + 1, mk, hi, hl, h => by
    unfold zeo
    refine zhX hr i _ (by omega) (by rw [zft]; exact hl) ?_
    obtain ⟨h1, h2, h3⟩ := h
    have hp := (zaI hr (show i < r.Commits.length by omega)).2
    refine ⟨fun j hj => ?_, stepM_mkd.2 (.inl h2), fun j hij hj p hpj => ?_⟩
    · rcases stepM_mkd.1 hj with h | ⟨h, p, hpp, e, _⟩
      · exact h1 j h
      · rw [e]; exact Rc.step (h1 i h) hpp
    · have hj' : mkd mk j := by
        rcases stepM_mkd.1 hj with h | ⟨h, q, hqq, e, _⟩
        · exact h
        · have := hp q hqq; omega
      have hjl := zjC hj'
      have hpb := (zaI hr (show j < r.Commits.length by omega)).2 p hpj
      rcases Nat.lt_or_ge i j with h4 | h4
      · exact stepM_mkd.2 (.inl (h3 j (by omega) hj' p hpj))
      · have e : j = i := by omega
        subst e
        exact stepM_mkd.2 (.inr ⟨hj', p, hpj, rfl, by omega⟩)
theorem zdo {r : Repo} (hr : zae r = true) {a : Nat} (ha : a < r.Commits.length) (j : Nat) : mkd (zav r a) j ↔ Rc r a j := by
  have h0 : zt4 r a (a + 1) ((List.replicate r.Commits.length false).set a true) := by
    have hm : ∀ j, mkd ((List.replicate r.Commits.length false).set a true) j ↔ j = a := fun j => by
      have := zkt (mk := List.replicate r.Commits.length false) (p := (a : Int)) (j := j)
      unfold zkr at this
      rw [Int.toNat_natCast] at this
      rw [this]
      constructor
      · rintro (h | h)
        · unfold mkd at h
          rw [List.getD, List.getElem?_replicate] at h
          split at h <;> simp at h
        · exact h.1
      · intro e
        exact .inr ⟨e, by rw [e]; simpa using ha⟩
    refine ⟨fun j hj => ?_, (hm a).2 rfl, fun j hij hj => ?_⟩
    · rw [(hm j).1 hj]; exact Rc.refl _
    · have := (hm j).1 hj; omega
  have h := zhX hr (a + 1) _ (by omega) (by simp) h0
  constructor
  · exact h.1 j
  · intro hc
    induction hc with
    | refl => exact h.2.1
    | step _ hp ih => exact h.2.2 _ (Nat.zero_le _) ih _ hp
theorem zbe {r : Repo} (hr : zae r = true) {a : Int} (h0 : 0 ≤ a) (h1 : a ≤ (r.Commits.length : Int) - 1) (x : Int) : x ∈ zaP r a ↔ 0 ≤ x ∧ Rc r a.toNat x.toNat := by
  unfold zaP zid
  rw [zaQ, List.mem_map]
  constructor
  · rintro ⟨i, hi, rfl⟩
    rw [List.mem_filter, List.mem_range] at hi
    exact ⟨Int.natCast_nonneg i, (zdo hr (show a.toNat < r.Commits.length by omega) i).1 hi.2⟩
  · rintro ⟨hx, h⟩
    have hl := (h.le hr (by omega)).2
    exact ⟨x.toNat, List.mem_filter.2 ⟨List.mem_range.2 hl, (zdo hr (show a.toNat < r.Commits.length by omega) x.toNat).2 h⟩, Int.toNat_of_nonneg hx⟩
theorem zaO {l : List Int} {n : Int} : zfC l n = true ↔ n ∈ l := by
  unfold zfC
  rw [List.any_eq_true]
  constructor
  · rintro ⟨x, hx, e⟩
    have : x = n := by simpa using e
    rw [← this]; exact hx
  · intro h
    exact ⟨n, h, by simp⟩
def zgl (l : List Int) : Prop := l.Pairwise (· < ·)
theorem zjk (n : Nat) : (List.range n).Pairwise (· < ·) := List.pairwise_lt_range
theorem zgN (mk : List Bool) : zgl (zid mk) := by
  unfold zgl zid
  rw [List.pairwise_map]
  exact ((zjk _).sublist (List.filter_sublist)).imp fun h => by simpa using h
theorem zfu (r : Repo) (a : Int) : zgl (zaP r a) := zgN _
theorem zgl.ext : ∀ {xs ys : List Int}, zgl xs → zgl ys → (∀ a, a ∈ xs ↔ a ∈ ys) → xs = ys
  | [], [], _, _, _ => rfl
  | [], y :: ys, _, _, h => by have := (h y).2 (by simp); simp at this
  | x :: xs, [], _, _, h => by have := (h x).1 (by simp); simp at this
  | x :: xs, y :: ys, hx, hy, h => by
    have hx' := List.pairwise_cons.1 hx
    have hy' := List.pairwise_cons.1 hy
    have e : x = y := by
      rcases List.mem_cons.1 ((h x).1 (by simp)) with e | hm
      · exact e
      · rcases List.mem_cons.1 ((h y).2 (by simp)) with e | hm2
        · exact e.symm
        · have h1 := hx'.1 y hm2
          have h2 := hy'.1 x hm
          omega
    subst e
    rw [zgl.ext hx'.2 hy'.2 (fun a => by
      constructor
      · intro ha
        rcases List.mem_cons.1 ((h a).1 (List.mem_cons_of_mem _ ha)) with e2 | e2
        · have := hx'.1 a ha; omega
        · exact e2
      · intro ha
        rcases List.mem_cons.1 ((h a).2 (List.mem_cons_of_mem _ ha)) with e2 | e2
        · have := hy'.1 a ha; omega
        · exact e2)]
theorem zmd {r : Repo} (h : zae r = true) {i : Nat} (hi : i < r.Commits.length) {F : List Bool → Option (List Bool)} : ∀ (j k m : Nat) (mk : List Bool), k + j = (zab r i).length → j < m → mk.length = r.Commits.length →
    zaK F (r.Commits.getD i noCommit) m (k : Int) mk = F (((zab r i).drop k).foldl zkr mk)
  | j, k, 0, mk, _, hm, _ => by omega
  | 0, k, m + 1, mk, hk, _, hl => by
    obtain rfl : k = (zab r i).length := by omega
    have e : (r.Commits.getD i noCommit).Parents = zab r i := rfl
    simp only [zaK, e, zad, cond_false, List.drop_length, List.foldl_nil]
  | j + 1, k, m + 1, mk, hk, hm, hl => by
    have hlt : k < (zab r i).length := by omega
    have hx : (zab r i)[k]? = some (zab r i)[k] := List.getElem?_eq_getElem hlt
    obtain ⟨hs, hp⟩ := zaI h hi
    obtain ⟨p0, p1⟩ := hp _ (List.getElem_mem hlt)
    have e : (r.Commits.getD i noCommit).Parents = zab r i := rfl
    have hn : (((zab r i)[k].toNat : Nat) : Int) = (zab r i)[k] := by omega
    have hg : gi mk (zab r i)[k] = some (mk.getD (zab r i)[k].toNat false) := by
      rw [← hn]
      exact zcB (by omega)
    have hsi : siM mk (zab r i)[k] true = some (zkr mk (zab r i)[k]) := by
      have := zbG (xs := mk) (i := (zab r i)[k].toNat) (by omega) true
      rw [hn] at this
      exact this
    simp only [zaK, e, zal hx, cond_true, zaf hx, hg, hsi, Option.bind_some]
    rw [zac hlt (by unfold maxi; omega), zmd h hi j (k + 1) m _ (by omega) (by omega) (by rw [zgK]; exact hl), List.drop_eq_getElem_cons hlt, List.foldl_cons]
theorem zme {r : Repo} (h : zae r = true) : ∀ (i m : Nat) (mk : List Bool), i ≤ r.Commits.length → i < m → mk.length = r.Commits.length →
    zaE r (fun _ y => some y) m ((i : Int) - 1) mk = some (zeo r i mk)
  | i, 0, mk, _, hm, _ => by omega
  | 0, m + 1, mk, _, _, _ => by
    simp only [zaE]
    rw [decide_eq_false (by omega)]
    rfl
  | i + 1, m + 1, mk, hi, hm, hl => by
    have hs := (zag h).1
    have hil : i < r.Commits.length := by omega
    have e : (((i + 1 : Nat) : Int)) - 1 = (i : Int) := by omega
    have e0 : (r.Commits.getD i noCommit).Parents = zab r i := rfl
    have hstep : (((i : Int) - 1)) = (i : Int) - 1 := rfl
    simp only [zaE, jn, e]
    rw [decide_eq_true (by omega), cond_true, zcB (by omega), Option.bind_some]
    have ih := zme h i m (zjg r i mk) (by omega) (by omega) (by rw [zft]; exact hl)
    unfold zeo
    rw [← ih]
    unfold zjg
    have hw : w64 ((i : Int) - 1) = (i : Int) - 1 := zf1 (show i ≤ maxi by unfold maxi; omega)
    cases mk.getD i false with
    | false => simp only [cond_false, hw]
    | true =>
      have h2 := zmd h hil (F := fun y27 => zaE r (fun _ y => some y) m (w64 ((i : Int) - 1)) y27) (zab r i).length 0 ((zab r i).length + 1) mk (by omega) (by omega) hl
      simp only [cond_true, ziz hil, Option.bind_some, e0, zak]
      refine h2.trans ?_
      rw [List.drop_zero, hw]
theorem zdS {r : Repo} (h : zae r = true) {a : Int} (h0 : 0 ≤ a) (h1 : a ≤ (r.Commits.length : Int) - 1) : zaU r a = some (zav r a.toNat) := by
  have hs := (zag h).1
  obtain ⟨n, rfl⟩ := Int.eq_ofNat_of_zero_le h0
  have hn : n < r.Commits.length := by omega
  have hl : (List.replicate r.Commits.length false).length = r.Commits.length := by simp
  unfold zaU zav
  rw [zgO (by simp [lim]; omega), Option.bind_some, zcB (by rw [hl]; exact hn), Option.bind_some, zbG (by rw [hl]; exact hn), Option.bind_some]
  simp only [jn]
  have e := zme h (n + 1) (((n : Int) + 1 - 0).toNat + 1) ((List.replicate r.Commits.length false).set n true) (by omega) (by omega) (by simp)
  rw [show (((n + 1 : Nat) : Int)) - 1 = (n : Int) by omega] at e
  refine e.trans ?_
  rw [Int.toNat_natCast]
theorem zg0 {mk : List Bool} (hl : mk.length ≤ 1000) : ∀ (k i m : Nat) (out : List Int), i + k = mk.length → k < m → out.length ≤ i →
    zcq mk (fun y69 _ => some y69) m out (i : Int) = some (out ++ ((List.range' i k).filter fun i => mk.getD i false).map Int.ofNat)
  | k, i, 0, out, _, hm, _ => by omega
  | 0, i, m + 1, out, hi, _, _ => by
    obtain rfl : i = mk.length := by omega
    simp only [zcq, zad, cond_false]
    simp
  | k + 1, i, m + 1, out, hi, hm, ho => by
    have hlt : i < mk.length := by omega
    have hx : mk[i]? = some mk[i] := List.getElem?_eq_getElem hlt
    simp only [zcq, jn, zal hx, cond_true, zcB hlt, Option.bind_some, zac hlt (show mk.length ≤ maxi by unfold maxi; omega), ap1 (x := (i : Int)) (show out.length ≤ 1048576 by omega)]
    rw [List.range'_succ, List.filter_cons]
    cases hb : mk.getD i false with
    | true =>
      rw [cond_true, zg0 hl k (i + 1) m _ (by omega) (by omega) (by simp; omega), if_pos rfl]
      simp
    | false =>
      rw [cond_false, zg0 hl k (i + 1) m _ (by omega) (by omega) (by omega), if_neg (by simp)]
theorem zgm {mk : List Bool} (hl : mk.length ≤ 1000) : za9 mk = some (zid mk) := by
  unfold za9 zid
  simp only [jn, zak]
  rw [show (0 : Int) = ((0 : Nat) : Int) from rfl, zg0 hl mk.length 0 (mk.length + 1) [] (by omega) (by omega) (by simp), List.range_eq_range']
  rfl
theorem zpj {r : Repo} (hr : zae r = true) {a : Nat} (ha : a < r.Commits.length) : zb9 r (a : Int) = some (match zab r a with | [] => -1 | p :: _ => p) := by
  have e : (r.Commits.getD a noCommit).Parents = zab r a := rfl
  unfold zb9
  simp only [ziz ha, Option.bind_some, e]
  cases hp : zab r a with
  | nil => rfl
  | cons p ps =>
    have hz : (((p :: ps).length : Int) == (0 : Int)) = false := by
      rw [beq_eq_false_iff_ne]
      simp only [List.length_cons]
      omega
    rw [hz, cond_false, show gi (p :: ps) 0 = some p from rfl, Option.bind_some]
theorem TB.of {t : List File} (hf : Bk.fit t) (h : Bk.bulk t ≤ 1048576) : TB t := ⟨zcT h, fun f hm => by
  have h1 : Bk.bulk f ≤ 1048576 := zhN h hm
  have h2 : Bk.bulk f = f.Path.length + Bk.bulk f.Text := rfl
  exact ⟨by omega, zcT (show Bk.bulk f.Text ≤ 1048576 by omega), (hf.2 f hm).2⟩⟩
theorem RpB.of {r : Repo} (hf : Bk.fit r) (h : Bk.bulk r ≤ 1048576) : RpB r := by
  have h0 : Bk.bulk r = Bk.bulk r.Commits + Bk.bulk r.Heads := rfl
  have hc : Bk.bulk r.Commits ≤ 1048576 := by omega
  have hh : Bk.bulk r.Heads ≤ 1048576 := by omega
  refine ⟨zcT hc, fun c hm => ?_, zcT hh, fun x hm => ?_⟩
  · have h1 : Bk.bulk c ≤ 1048576 := zhN hc hm
    have h2 : Bk.bulk c = Bk.bulk c.Parents + (c.Who.length + Bk.bulk c.Tree) := rfl
    exact ⟨zcT (show Bk.bulk c.Parents ≤ 1048576 by omega), by omega, TB.of (hf.1.2 c hm).2.2 (by omega)⟩
  · have h1 : Bk.bulk x ≤ 1048576 := zhN hh hm
    have h2 : Bk.bulk x = x.Name.length + 0 := rfl
    omega
theorem ziI {r : Repo} (h : RpB r) : zbc r = some r := by
  have hm := zas h.coms
  have hl := h.coms
  unfold zbc
  simp only [jn, zak, apN h.heads, Option.bind_some]
  rw [zeE (xs := r.Commits) (p := fun _ => true) (g := fun f : Commit => f) (Z := fun acc => some (Repo.mk acc r.Heads)) (f := fun m acc i => zcM r _ m i acc r.Heads) (fun m i x acc hx ha => by
    have hi := zau hx
    have hc := h.cat hx
    simp only [zcM, zal hx, zaf hx, cond_true, Option.bind_some, zac hi hm, apN hc.par, zhO hc.tree, ap1 (show acc.length ≤ 1048576 by omega)]) (fun m acc => by simp only [zcM, zad, cond_false]) (by omega)]
  rw [show ((r.Commits.filter fun _ => true).map fun f : Commit => f) = r.Commits by simp]
theorem zkW (n : Str) (a : Int) : ∀ (A B : List Head), (∀ h ∈ A, h.Name < n) → (∀ h ∈ B, n < h.Name) → zeY n a false (A ++ B) = A ++ [⟨n, a⟩] ++ B
  | [], [], _, _ => rfl
  | [], h :: B, _, hB => by
    have h1 := hB h (by simp)
    have h2 : Op.bytesLess h.Name n = false := by
      rw [za6, decide_eq_false_iff_not]
      exact fun e => zan _ (zbb e h1)
    have h3 : (h.Name != n) = true := by
      rw [bne_iff_ne]
      exact fun e => by rw [e] at h1; exact zan _ h1
    show zeY n a false (h :: B) = _
    unfold zeY
    rw [h2, h3, Bool.not_false, Bool.and_true, Bool.false_or, cond_true, cond_true, zjV n a B fun x hx e => by
      have := hB x (by simp [hx])
      rw [e] at this
      exact zan _ this]
    rfl
  | h :: A, B, hA, hB => by
    have h1 := hA h (by simp)
    have h2 : Op.bytesLess h.Name n = true := by rw [za6]; simpa using h1
    have h3 : (h.Name != n) = true := by
      rw [bne_iff_ne]
      exact fun e => by rw [e] at h1; exact zan _ h1
    show zeY n a false (h :: (A ++ B)) = _
    unfold zeY
    rw [h2, h3, Bool.not_true, Bool.and_false, Bool.or_false, cond_false, cond_true, zkW n a A B (fun x hx => hA x (by simp [hx])) hB]
    rfl
def zjX (n : Str) (hs : List Head) : Nat → Nat
  | 0 => 0
  | k + 1 => bif Op.bytesLess n (hs.getD k zfO).Name then zjX n hs k else k + 1
theorem zrz {hs : List Head} (hl : hs.length ≤ 1048576) {x : Head} {K : Int → Option (List Head)} : ∀ (k m : Nat), k ≤ hs.length → k < m → zc2 hs x K m (k : Int) = K (zjX x.Name hs k : Int)
  | k, 0, _, hm => by omega
  | 0, m + 1, _, _ => rfl
  | k + 1, m + 1, hk, hm => by
    have hx : hs[k]? = some hs[k] := List.getElem?_eq_getElem (by omega)
    have hw : w64 (((k + 1 : Nat) : Int) - 1) = (k : Int) := by rw [zai (by omega) (by omega)]; omega
    simp only [zc2, jn, hw, zaf hx, Option.bind_some, zhJ, Bool.not_not]
    rw [decide_eq_true (by omega), cond_true]
    unfold zjX
    rw [zbZ hx]
    cases Op.bytesLess x.Name hs[k].Name with
    | true => rw [cond_true, cond_true, zrz hl k m (by omega) (by omega)]
    | false => rfl
theorem zkX {n : Str} {hs : List Head} (hp : hs.Pairwise (fun x y => x.Name < y.Name)) (hno : ∀ h ∈ hs, h.Name ≠ n) : ∀ k, k ≤ hs.length → zjX n hs k ≤ k ∧ (∀ h ∈ hs.take (zjX n hs k), h.Name < n) ∧ ∀ i h, zjX n hs k ≤ i → i < k → hs[i]? = some h → n < h.Name
  | 0, _ => ⟨Nat.le_refl _, fun h hh => by simp [zjX] at hh, fun i h _ hi _ => by omega⟩
  | k + 1, hk => by
    have hx : hs[k]? = some hs[k] := List.getElem?_eq_getElem (by omega)
    unfold zjX
    rw [zbZ hx]
    cases hb : Op.bytesLess n hs[k].Name with
    | true =>
      rw [cond_true]
      obtain ⟨h1, h2, h3⟩ := zkX hp hno k (by omega)
      refine ⟨by omega, h2, fun i h hi hik hh => ?_⟩
      rcases Nat.lt_or_ge i k with h4 | h4
      · exact h3 i h hi h4 hh
      · obtain rfl : i = k := by omega
        rw [hx] at hh
        cases hh
        rw [za6] at hb
        simpa using hb
    | false =>
      rw [cond_false]
      have hlast : hs[k].Name < n := by
        rw [za6] at hb
        exact zbX (zii.1 (by simpa using hb)) (hno _ (List.getElem_mem _))
      refine ⟨Nat.le_refl _, fun h hh => ?_, fun i h h1 h2 _ => by omega⟩
      obtain ⟨i, hi⟩ := List.getElem?_of_mem hh
      rw [List.getElem?_take] at hi
      split at hi
      · rename_i hik
        obtain ⟨hlt, rfl⟩ := List.getElem?_eq_some_iff.1 hi
        rcases Nat.lt_or_ge i k with h4 | h4
        · exact zbb (List.pairwise_iff_getElem.1 hp i k hlt (by omega) h4) hlast
        · obtain rfl : i = k := by omega
          exact hlast
      · cases hi
theorem zln {hs : List Head} (hl : hs.length ≤ 1048576) {n : Str} {a : Int} (hp : hs.Pairwise (fun x y => x.Name < y.Name)) (hno : ∀ h ∈ hs, h.Name ≠ n) : zeq hs ⟨n, a⟩ = some (zeY n a false hs) := by
  obtain ⟨h1, h2, h3⟩ := zkX hp hno hs.length (Nat.le_refl _)
  unfold zeq
  simp only [jn]
  rw [zrz hl hs.length (hs.length + 1) (Nat.le_refl _) (by omega), apN hl, Option.bind_some]
  show (zaV hs (zjX n hs hs.length : Int) ⟨n, a⟩).bind _ = _
  unfold zaV
  rw [if_pos ⟨by omega, by omega, by unfold lim; omega⟩, Option.bind_some, Int.toNat_natCast]
  have := zkW n a (hs.take (zjX n hs hs.length)) (hs.drop (zjX n hs hs.length)) h2 (fun h hh => by
    obtain ⟨i, hi⟩ := List.getElem?_of_mem hh
    rw [List.getElem?_drop] at hi
    exact h3 _ h (by omega) (List.getElem?_eq_some_iff.1 hi).1 hi)
  rw [List.take_append_drop] at this
  rw [this]
theorem zqH {r : Repo} (h : RpB r) {n : Str} {a : Int} (hp : r.Heads.Pairwise (fun x y => x.Name < y.Name)) (hno : ∀ x ∈ r.Heads, x.Name ≠ n) : zbs r n a = some (headR r n a) := by
  have hm := zas h.heads
  unfold zbs
  simp only [jn, zak]
  rw [zdm (p := fun _ : Head => false) (xs := r.Heads) (r := fun _ => none) (Z := some (headR r n a)) (f := fun m k => za3 r n a _ m k [] [] r.Heads) (fun m i x hx => by
    have : (x.Name == n) = false := beq_false_of_ne (hno x (List.mem_of_getElem? hx))
    simp only [za3, zal hx, zaf hx, cond_true, cond_false, Option.bind_some, zac (zau hx) hm, this]) (fun m => by
    simp only [za3, zad, cond_false, zln h.heads hp hno, Option.bind_some]
    rfl) (by omega)]
  rw [show r.Heads.find? (fun _ => false) = none by simp]
theorem zqI {r y : Repo} (h : RpB r) (hy : RpB y) : zcb r y = some (bif zae y then (y, true) else (r, false)) := by
  unfold zcb
  rw [show (⟨y.Commits, y.Heads⟩ : Repo) = y from rfl, zje hy, Option.bind_some]
  cases zae y with
  | true => rfl
  | false => rw [Bool.not_false, cond_true, cond_false, ziI h]; rfl
theorem zmf {n : Str} {a : Int} : ∀ (hs : List Head) (j : Nat) (x : Head), hs.Pairwise (fun x y => x.Name < y.Name) → hs[j]? = some x → x.Name = n → hs.set j ⟨x.Name, a⟩ = hs.map (zgG n a)
  | [], j, x, _, h, _ => by simp at h
  | h :: hs, 0, x, hp, e, hn => by
    obtain rfl : h = x := by simpa using e
    rw [List.set_cons_zero, List.map_cons]
    have ht : hs.map (zgG n a) = hs := by
      conv => rhs; rw [← List.map_id hs]
      refine List.map_congr_left (fun y hy => ?_)
      have h1 := (List.pairwise_cons.1 hp).1 y hy
      unfold zgG
      rw [beq_false_of_ne (fun e2 => by rw [hn, e2] at h1; exact zan _ h1)]
      rfl
    rw [ht]
    unfold zgG
    rw [hn, beq_self_eq_true]
    rfl
  | h :: hs, j + 1, x, hp, e, hn => by
    rw [List.getElem?_cons_succ] at e
    have h1 := (List.pairwise_cons.1 hp).1 x (List.mem_of_getElem? e)
    rw [List.set_cons_succ, List.map_cons, zmf hs j x (List.pairwise_cons.1 hp).2 e hn]
    congr 1
    unfold zgG
    rw [beq_false_of_ne (fun e2 => by rw [hn, e2] at h1; exact zan _ h1)]
    rfl
theorem zmT {r : Repo} (h : RpB r) {n : Str} {a : Int} {K : Int → List Commit → List Head → List Head → Option Repo} (hp : r.Heads.Pairwise (fun x y => x.Name < y.Name)) (he : ∃ x ∈ r.Heads, x.Name = n) : ∀ (k i m : Nat), i + k = r.Heads.length → k < m → (∀ j x, j < i → r.Heads[j]? = some x → x.Name ≠ n) →
    za3 r n a K m (i : Int) [] [] r.Heads = some ⟨r.Commits, r.Heads.map (zgG n a)⟩
  | k, i, 0, _, hm, _ => by omega
  | 0, i, m + 1, hi, _, hno => by
    obtain ⟨x, hx, e⟩ := he
    obtain ⟨j, hj⟩ := List.getElem?_of_mem hx
    exact absurd e (hno j x (by have := zau hj; omega) hj)
  | k + 1, i, m + 1, hi, hm, hno => by
    have hlt : i < r.Heads.length := by omega
    have hx : r.Heads[i]? = some r.Heads[i] := List.getElem?_eq_getElem hlt
    simp only [za3, zal hx, zaf hx, cond_true, Option.bind_some, zac hlt (zas h.heads), zbG hlt]
    cases hb : r.Heads[i].Name == n with
    | true => rw [cond_true, zmf r.Heads i _ hp hx (by simpa using hb)]
    | false =>
      rw [cond_false]
      exact zmT h hp he k (i + 1) m (by omega) (by omega) fun j x hj hjx => by
        rcases Nat.lt_or_ge j i with h1 | h1
        · exact hno j x h1 hjx
        · obtain rfl : j = i := by omega
          rw [hx] at hjx
          cases hjx
          exact fun e => by simp [e] at hb
theorem zmg {r : Repo} (h : RpB r) (hp : r.Heads.Pairwise (fun x y => x.Name < y.Name)) (n : Str) (a : Int) : zbs r n a = some (headR r n a) := by
  by_cases he : ∃ x ∈ r.Heads, x.Name = n
  · unfold headR
    rw [ziH n a r.Heads hp he]
    unfold zbs
    simp only [jn, zak]
    exact zmT h hp he r.Heads.length 0 (r.Heads.length + 1) (by omega) (by omega) (fun j x hj => by omega)
  · exact zqH h hp fun x hx e => he ⟨x, hx, e⟩
theorem zfX {n : Nat} {hs : List Head} : zdy n hs = true ↔ (∀ h ∈ hs, zaM h.Name = true ∧ upB n h.At = true) ∧ hs.Pairwise (fun x y => x.Name < y.Name) ∧ hs.length ≤ 5 := by
  unfold zdy
  rw [Bool.and_eq_true, decide_eq_true_eq, zaL]
  constructor
  · rintro ⟨hg, hl⟩
    refine ⟨fun h hm => ?_, ?_, by omega⟩
    · obtain ⟨i, hi⟩ := List.getElem?_of_mem hm
      have hlt := (List.getElem?_eq_some_iff.1 hi).1
      have := hg i (by omega) (by omega)
      unfold zgE at this
      rw [zbZ hi] at this
      simp only [Bool.and_eq_true] at this
      exact ⟨this.1, this.2.1⟩
    · have step : ∀ i, (hi : i + 1 < hs.length) → (hs[i]'(by omega)).Name < hs[i + 1].Name := fun i hi => by
        have := hg (i + 1) (by omega) (by omega)
        unfold zgE at this
        rw [zbZ (List.getElem?_eq_getElem hi), decide_eq_true (by omega), Nat.add_sub_cancel, zbZ (List.getElem?_eq_getElem (show i < hs.length by omega))] at this
        simp only [cond_true, Bool.and_eq_true, za6, decide_eq_true_eq] at this
        exact this.2.2
      refine List.pairwise_iff_getElem.2 fun i j hi hj hij => ?_
      induction j with
      | zero => omega
      | succ j ih =>
        rcases Nat.lt_or_ge i j with h1 | h1
        · exact zbb (ih (by omega) h1) (step j hj)
        · have : i = j := by omega
          subst this
          exact step i hj
  · rintro ⟨h1, h2, h3⟩
    refine ⟨fun i h0 hi => ?_, by omega⟩
    have hx : hs[i]? = some (hs[i]'(by omega)) := List.getElem?_eq_getElem (by omega)
    have hm := List.mem_of_getElem? hx
    unfold zgE
    rw [zbZ hx, (h1 _ hm).1, (h1 _ hm).2, Bool.true_and, Bool.true_and]
    by_cases hz : 0 < (i : Int)
    · have hp : hs[i - 1]? = some (hs[i - 1]'(by omega)) := List.getElem?_eq_getElem (by omega)
      rw [decide_eq_true hz, cond_true, zbZ hp, za6]
      simpa using List.pairwise_iff_getElem.1 h2 (i - 1) i (by omega) (by omega) (by omega)
    · rw [decide_eq_false hz]
      rfl
theorem zhC {r : Repo} : zae r = true ↔ (r.Commits.length ≤ 16 ∧ zlF r.Commits = true) ∧ zdy r.Commits.length r.Heads = true := by
  unfold zae
  simp only [Bool.and_eq_true, decide_eq_true_eq]
  constructor
  · rintro ⟨h1, h2, h3⟩; exact ⟨⟨by omega, h2⟩, h3⟩
  · rintro ⟨⟨h1, h2⟩, h3⟩; exact ⟨by omega, h2, h3⟩
theorem zmh {r : Repo} (hr : zae r = true) {x : Head} (hx : x ∈ r.Heads) : atB r x.Name = x.At ∧ 0 ≤ x.At ∧ x.At ≤ (r.Commits.length : Int) - 1 := by
  have hh := zfX.1 (zhC.1 hr).2
  have hu := zap.1 (hh.1 x hx).2
  refine ⟨?_, hu⟩
  unfold atB
  cases hf : r.Heads.find? (fun h => h.Name == x.Name) with
  | none => exact absurd (List.find?_eq_none.1 hf x hx) (by simp)
  | some y =>
    have hy := List.mem_of_find?_eq_some hf
    have hn : y.Name = x.Name := by simpa using List.find?_some hf
    obtain ⟨i, hi, rfl⟩ := List.getElem_of_mem hx
    obtain ⟨j, hj, rfl⟩ := List.getElem_of_mem hy
    have hp := List.pairwise_iff_getElem.1 hh.2.1
    rcases Nat.lt_trichotomy i j with h1 | h1 | h1
    · have := hp i j hi hj h1
      rw [hn] at this
      exact absurd this (zan _)
    · subst h1; rfl
    · have := hp j i hj hi h1
      rw [hn] at this
      exact absurd this (zan _)
theorem zoa (n : Str) (a : Int) : ∀ hs : List Head, (⟨n, a⟩ : Head) ∈ zeY n a false hs
  | [] => by simp [zeY]
  | h :: hs => by
    unfold zeY
    cases Op.bytesLess h.Name n with
    | true =>
      rw [Bool.not_true, Bool.and_false, Bool.or_false]
      exact List.mem_append_right _ (List.mem_append_right _ (zoa n a hs))
    | false => simp
theorem zmU {r : Repo} {n : Str} {a : Int} (h : zae (headR r n a) = true) : atB (headR r n a) n = a := (zmh h (zoa n a r.Heads)).1
theorem zjl {R α σ : Type} {xs : List α} {g : σ → α → σ} {I : σ → Prop} {f : Nat → Int → σ → Option R} {Z : σ → Option R}
    (hs : ∀ m (i : Nat) x s, xs[i]? = some x → I s → f (m + 1) (i : Int) s = f m ((i + 1 : Nat) : Int) (g s x) ∧ I (g s x)) (he : ∀ m s, I s → f (m + 1) (xs.length : Int) s = Z s) :
    ∀ (k i m : Nat) (s : σ), i + k = xs.length → k < m → I s → f m (i : Int) s = Z ((xs.drop i).foldl g s) ∧ I ((xs.drop i).foldl g s)
  | k, i, 0, s, _, hm, _ => by omega
  | 0, i, m + 1, s, hi, _, h => by
    obtain rfl : i = xs.length := by omega
    rw [List.drop_length, List.foldl_nil]
    exact ⟨he m s h, h⟩
  | k + 1, i, m + 1, s, hi, hm, h => by
    have hlt : i < xs.length := by omega
    obtain ⟨e1, e2⟩ := hs m i xs[i] s (List.getElem?_eq_getElem hlt) h
    rw [e1, List.drop_eq_getElem_cons hlt, List.foldl_cons]
    exact zjl hs he k (i + 1) m _ (by omega) (by omega) e2
theorem zgq {R α σ : Type} {xs : List α} {g : σ → α → σ} {I : σ → Prop} {f : Nat → Int → σ → Option R} {Z : σ → Option R} {s : σ} (h : I s)
    (hs : ∀ m (i : Nat) x s, xs[i]? = some x → I s → f (m + 1) (i : Int) s = f m ((i + 1 : Nat) : Int) (g s x) ∧ I (g s x)) (he : ∀ m s, I s → f (m + 1) (xs.length : Int) s = Z s) : f (xs.length + 1) 0 s = Z (xs.foldl g s) := by
  have := (zjl hs he xs.length 0 (xs.length + 1) s (by omega) (by omega) h).1
  rwa [List.drop_zero] at this
def zm4 (v : Bool) (mk : List Bool) (p : Int) : List Bool := mk.set p.toNat v
theorem zhD (v : Bool) : ∀ (ps : List Int) (mk : List Bool), (ps.foldl (zm4 v) mk).length = mk.length
  | [], mk => rfl
  | p :: ps, mk => by rw [List.foldl_cons, zhD v ps]; simp [zm4]
theorem zmV (v : Bool) : ∀ (ps : List Int) (mk : List Bool) (j : Nat), j < mk.length → (ps.foldl (zm4 v) mk).getD j false = bif ps.any (fun p => Nat.beq p.toNat j) then v else mk.getD j false
  | [], mk, j, _ => rfl
  | p :: ps, mk, j, h => by
    rw [List.foldl_cons, zmV v ps _ j (by simp [zm4]; exact h), List.any_cons]
    have hs : (zm4 v mk p).getD j false = bif Nat.beq p.toNat j then v else mk.getD j false := by
      unfold zm4
      cases hb : Nat.beq p.toNat j with
      | true =>
        have e := Nat.eq_of_beq_eq_true hb
        rw [e]
        simp [List.getD, h]
      | false =>
        have hne : p.toNat ≠ j := fun e => by rw [e, Nat.beq_refl] at hb; cases hb
        simp only [List.getD, List.getElem?_set_ne hne]
        rfl
    rw [hs]
    cases Nat.beq p.toNat j <;> cases (ps.any fun p => Nat.beq p.toNat j) <;> rfl
theorem zi2 {mk : List Bool} {x : Int} : x ∈ zid mk ↔ 0 ≤ x ∧ mkd mk x.toNat := by
  unfold zid
  rw [List.mem_map]
  constructor
  · rintro ⟨i, hi, rfl⟩
    rw [List.mem_filter] at hi
    exact ⟨Int.natCast_nonneg i, hi.2⟩
  · rintro ⟨hx, h⟩
    exact ⟨x.toNat, List.mem_filter.2 ⟨List.mem_range.2 (zjC h), h⟩, Int.toNat_of_nonneg hx⟩
theorem zqJ {l : List Int} {j : Nat} (h : ∀ p ∈ l, 0 ≤ p) : (l.any fun p => Nat.beq p.toNat j) = zfC l (j : Int) := by
  apply zez
  rw [zaO, List.any_eq_true]
  constructor
  · rintro ⟨p, hp, e⟩
    have := Nat.eq_of_beq_eq_true e
    rwa [← this, Int.toNat_of_nonneg (h p hp)]
  · intro hm
    exact ⟨_, hm, by rw [Int.toNat_natCast]; exact Nat.beq_refl j⟩
theorem zlo (mk : List Bool) : (zid mk).length ≤ mk.length := by
  unfold zid
  rw [List.length_map]
  exact Nat.le_trans (List.length_filter_le _ _) (by simp)
def zb3 (r : Repo) (good : List Int) (bad : Int) : List Int := (zaP r bad).filter fun x => good.all fun g => !zfC (zaP r g) x
theorem zjm (r : Repo) (good : List Int) (bad : Int) : zgl (zb3 r good bad) := (zfu r bad).sublist List.filter_sublist
theorem zjn (r : Repo) (good : List Int) (bad : Int) : (zb3 r good bad).length ≤ r.Commits.length := Nat.le_trans (List.length_filter_le _ _) (zdX r bad)
theorem zeN {r : Repo} {good : List Int} {bad x : Int} : x ∈ zb3 r good bad ↔ x ∈ zaP r bad ∧ ∀ g ∈ good, x ∉ zaP r g := by
  unfold zb3
  rw [List.mem_filter, List.all_eq_true]
  constructor
  · rintro ⟨h1, h2⟩
    refine ⟨h1, fun g hg hx => ?_⟩
    have := h2 g hg
    rw [zaO.2 hx] at this
    cases this
  · rintro ⟨h1, h2⟩
    refine ⟨h1, fun g hg => ?_⟩
    cases hb : zfC (zaP r g) x with
    | false => rfl
    | true => exact absurd (zaO.1 hb) (h2 g hg)
def zmi (r : Repo) (ls : List Int) (mk : List Bool) : List Bool := ls.foldl (fun mk o => (zaP r o).foldl (zm4 false) mk) mk
theorem ziJ (r : Repo) : ∀ (ls : List Int) (mk : List Bool), (zmi r ls mk).length = mk.length
  | [], mk => rfl
  | o :: ls, mk => by
    have := ziJ r ls ((zaP r o).foldl (zm4 false) mk)
    rw [zhD] at this
    exact this
theorem zjY (r : Repo) : ∀ (ls : List Int) (mk : List Bool) (j : Nat), j < mk.length → (zmi r ls mk).getD j false = (mk.getD j false && ls.all fun o => !zfC (zaP r o) (j : Int))
  | [], mk, j, _ => by simp [zmi]
  | o :: ls, mk, j, h => by
    have e := zjY r ls ((zaP r o).foldl (zm4 false) mk) j (by rw [zhD]; exact h)
    rw [zmV false _ _ _ h, zqJ (fun p hp => (zaZ hp).1)] at e
    refine e.trans ?_
    rw [List.all_cons]
    cases zfC (zaP r o) (j : Int) <;> cases mk.getD j false <;> rfl
theorem zob {r : Repo} (hr : zae r = true) {at_ : Int} (h0 : 0 ≤ at_) (h1 : at_ ≤ (r.Commits.length : Int) - 1) (ls : List Int) : zid (zmi r ls (zav r at_.toNat)) = zb3 r ls at_ := by
  refine zgl.ext (zgN _) (zjm _ _ _) fun x => ?_
  rw [zi2, zeN, zbe hr h0 h1]
  constructor
  · rintro ⟨hx, hm⟩
    have hlt := zjC hm
    rw [ziJ, zaQ] at hlt
    unfold mkd at hm
    rw [zjY _ _ _ _ (by rw [zaQ]; exact hlt), Bool.and_eq_true, List.all_eq_true] at hm
    refine ⟨⟨hx, (zdo hr (show at_.toNat < r.Commits.length by omega) _).1 hm.1⟩, fun g hg hxg => ?_⟩
    have := hm.2 g hg
    rw [Int.toNat_of_nonneg hx, zaO.2 hxg] at this
    cases this
  · rintro ⟨⟨hx, hc⟩, hg⟩
    have hm := (zdo hr (show at_.toNat < r.Commits.length by omega) _).2 hc
    have hlt := zjC hm
    refine ⟨hx, ?_⟩
    unfold mkd at hm ⊢
    rw [zjY _ _ _ _ hlt, hm, Bool.true_and, List.all_eq_true]
    intro g hgm
    rw [Int.toNat_of_nonneg hx]
    cases hb : zfC (zaP r g) x with
    | false => rfl
    | true => exact absurd (zaO.1 hb) (hg g hgm)
theorem zpk {r : Repo} (hr : zae r = true) {at_ : Int} (ha : upB r.Commits.length at_ = true) {ls : List Int} (hl : ls.length ≤ 1000) (hg : ∀ g ∈ ls, upB r.Commits.length g = true) : zer r at_ ls = some (zb3 r ls at_) := by
  obtain ⟨a0, a1⟩ := zap.1 ha
  have hs := (zag hr).1
  unfold zer
  rw [zdS hr a0 a1, Option.bind_some]
  simp only [jn, zak]
  rw [zgq (xs := ls) (g := fun mk o => (zaP r o).foldl (zm4 false) mk) (I := fun mk => mk.length = r.Commits.length) (Z := fun mk => (za9 mk).bind fun z => some z) (f := fun m i mk => zbn r ls _ m i mk) (zaQ r _) (fun m i o mk ho hmk => by
    obtain ⟨o0, o1⟩ := zap.1 (hg o (List.mem_of_getElem? ho))
    refine ⟨?_, by rw [zhD]; exact hmk⟩
    simp only [zbn, jn, zal ho, zaf ho, cond_true, Option.bind_some, zdS hr o0 o1, zgm (show (zav r o.toNat).length ≤ 1000 by rw [zaQ]; omega), zak]
    have hal := zlo (zav r o.toNat)
    rw [zaQ] at hal
    rw [zgq (xs := zid (zav r o.toNat)) (g := zm4 false) (I := fun mk => mk.length = r.Commits.length) (Z := fun mk => zbn r ls (fun _ y14 => (za9 y14).bind fun z63 => some z63) m (w64 ((i : Int) + 1)) mk) (f := fun m' i mk => zbV (zid (zav r o.toNat)) _ m' i mk) hmk (fun m' i' x mk' hx hmk' => by
      have hxm := zaZ (r := r) (a := o) (List.mem_of_getElem? hx)
      have hxl : x.toNat < mk'.length := by omega
      have e1 : gi mk' x = some (mk'.getD x.toNat false) := by
        have := zcB hxl
        rwa [Int.toNat_of_nonneg hxm.1] at this
      have e2 : siM mk' x false = some (zm4 false mk' x) := by
        have := zbG hxl false
        rwa [Int.toNat_of_nonneg hxm.1] at this
      refine ⟨?_, by simp [zm4]; exact hmk'⟩
      simp only [zbV, zal hx, zaf hx, cond_true, Option.bind_some, e1, e2, zac (zau hx) (show (zid (zav r o.toNat)).length ≤ maxi by unfold maxi; omega)]) (fun m' mk' _ => by simp only [zbV, zad, cond_false]), zac (zau ho) (show ls.length ≤ maxi by unfold maxi; omega)]
    rfl) (fun m mk _ => by simp only [zbn, zad, cond_false])]
  rw [show ls.foldl (fun mk o => (zaP r o).foldl (zm4 false) mk) (zav r at_.toNat) = zmi r ls (zav r at_.toNat) from rfl, zgm (by rw [ziJ, zaQ]; omega), Option.bind_some, zob hr a0 a1]
def zlp (r : Repo) (a b : Int) : List Int := bif zae r && (upB r.Commits.length a && upB r.Commits.length b) then zb3 r [a] b else []
theorem zoc {r : Repo} (h : RpB r) (a b : Int) : zg6 r a b = some (zlp r a b) := by
  unfold zg6 zlp
  simp only [jn, zkD h, zgV, zf1 (zas h.coms), Option.bind_some]
  rw [show (decide ((0 : Int) ≤ a) && decide (a ≤ (r.Commits.length : Int) - 1)) = upB r.Commits.length a from rfl, show (decide ((0 : Int) ≤ b) && decide (b ≤ (r.Commits.length : Int) - 1)) = upB r.Commits.length b from rfl]
  cases hr : zae r with
  | false => rfl
  | true =>
    have hs := (zag hr).1
    cases ha : upB r.Commits.length a with
    | false => rfl
    | true =>
      cases hb : upB r.Commits.length b with
      | false => rfl
      | true =>
        obtain ⟨a0, a1⟩ := zap.1 ha
        obtain ⟨b0, b1⟩ := zap.1 hb
        have la := zdX r a
        have lb := zdX r b
        simp only [Bool.not_true, cond_false, Bool.and_true, cond_true, zhK hr a0 a1, zhK hr b0 b1, Option.bind_some, zak]
        rw [zeE (xs := zaP r b) (p := fun x => !zfC (zaP r a) x) (g := fun x : Int => x) (Z := fun acc => some acc) (f := fun m acc i => zdC (zaP r a) (zaP r b) _ m acc i) (fun m i x acc hx ha => by
          have hi := zau hx
          simp only [zdC, jn, zal hx, zaf hx, cond_true, Option.bind_some, zac hi (show (zaP r b).length ≤ maxi by unfold maxi; omega), zks (show (zaP r a).length ≤ 1000000 by omega), ap1 (show acc.length ≤ 1048576 by omega)]
          cases zfC (zaP r a) x <;> rfl) (fun m acc => by simp only [zdC, zad, cond_false]) (by omega)]
        rw [List.map_id']
        unfold zb3
        congr 1
        refine List.filter_congr fun x _ => ?_
        simp
section
variable {r : l30Rd} {p : Int}
end
theorem zod {r : Repo} (h : RpB r) (hl : r.Commits.length ≤ 100000) (hp : r.Heads.Pairwise (fun x y => x.Name < y.Name)) {n who : Str} {t : List File} {ps : List Int} (ht : TB t) (hw : who.length ≤ 1048576) (hps : ps.length ≤ 1048576) :
    zbM r n who t ps = some (addR r n ⟨ps, who, t⟩) := by
  have hc : CB ⟨ps, who, t⟩ := ⟨hps, hw, ht⟩
  unfold zbM
  rw [zhO ht, Option.bind_some, ap1 h.coms, Option.bind_some]
  have e : w64 (((r.Commits ++ [Commit.mk ps who t]).length : Int) - 1) = (r.Commits.length : Int) := by rw [zai (by omega) (by simp; omega)]; simp
  rw [e, zmg (h.push hc hl) hp, Option.bind_some]
  rfl
def zlG (p : Int) : Prop := -9223372036854775808 ≤ p ∧ p ≤ 9223372036854775807
section
variable {r : Repo} {has : List Int} {sent : List Commit}
end
set_option linter.unusedSectionVars false
structure SentB (sent : List Commit) : Prop where
  len : sent.length ≤ 16
  cb : ∀ c ∈ sent, CB c
  fit : ∀ c ∈ sent, ∀ p ∈ c.Parents, zlG p
theorem SentB.take {sent : List Commit} (h : SentB sent) (k : Nat) : SentB (sent.take k) :=
  ⟨Nat.le_trans (List.length_take_le' k sent) h.len, fun c hc => h.cb c (List.mem_of_mem_take hc), fun c hc => h.fit c (List.mem_of_mem_take hc)⟩
theorem SentB.set {sent : List Commit} (h : SentB sent) {c : Commit} (hc : CB c) (hf : ∀ p ∈ c.Parents, zlG p) (k : Nat) : SentB (sent.set k c) :=
  ⟨by rw [List.length_set]; exact h.len, fun d hd => by
    rcases List.mem_or_eq_of_mem_set hd with q | q
    · exact h.cb d q
    · rw [q]; exact hc, fun d hd => by
    rcases List.mem_or_eq_of_mem_set hd with q | q
    · exact h.fit d q
    · rw [q]; exact hf⟩
section
variable {x : Repo} (hr : zae x = true) {a b : Int} (ha : upB x.Commits.length a = true) (hb : upB x.Commits.length b = true)
include hr ha
include hb
end
theorem zlq {t : List File} {p : Str} (h : (getT t p).2 = false) : (getT t p).1 = [] := by
  unfold getT at *
  cases hf : t.find? (fun f => f.Path == p) with
  | none => rfl
  | some f => rw [hf] at h; cases h
theorem zmj {a b : List File} {p : Str} : ziF (getT a p) (getT b p) = decide (getT a p = getT b p) := by
  have ha := zlq (t := a) (p := p)
  have hb := zlq (t := b) (p := p)
  revert ha hb
  generalize getT a p = x
  generalize getT b p = y
  intro ha hb
  obtain ⟨x1, x2⟩ := x
  obtain ⟨y1, y2⟩ := y
  unfold ziF
  cases x2 <;> cases y2
  · have e1 : x1 = [] := ha rfl
    have e2 : y1 = [] := hb rfl
    subst e1; subst e2; simp
  · simp
  · simp
  · by_cases h : x1 = y1
    · subst h; simp
    · have e : (x1 == y1) = false := beq_false_of_ne h
      simp [e, h]
theorem zjJ (o a b : List File) : Asd (zdn o a b) := zfV _ _ (zfV _ _ (zfV _ _ List.Pairwise.nil))
theorem zeB {α : Type} {f : α → Nat} {c : Nat} : ∀ {t : List α}, (∀ s ∈ t, f s ≤ c) → sumB f t ≤ c * t.length
  | [], _ => by simp [sumB]
  | x :: t, h => by
    have h1 := h x (by simp)
    have h2 := zeB (t := t) (fun s hs => h s (by simp [hs]))
    simp only [sumB, List.length_cons, Nat.mul_add, Nat.mul_one]
    omega
theorem znG {t : List Str} (h : zaB t = true) : Bk.bulk t ≤ 130 := by
  have hl := zar h
  have hs : sumB Bk.bulk t ≤ 12 * t.length := zeB fun s hs => by
    have := zie (zaX h s hs)
    show s.length ≤ 12
    omega
  show t.length + sumB Bk.bulk t ≤ 130
  omega
theorem znH {t : List File} (h : zaJ t = true) : Bk.bulk t ≤ 1208 := by
  have hl := zaG h
  have hs : sumB Bk.bulk t ≤ 150 * t.length := zeB fun f hf => by
    have h1 := zeA (zbB h hf)
    have h2 := znG (zam h f hf)
    show f.Path.length + Bk.bulk f.Text ≤ 150
    omega
  show t.length + sumB Bk.bulk t ≤ 1208
  omega
theorem zoF {r : Repo} (h : zae r = true) {c : Commit} (hc : c ∈ r.Commits) : c.Parents.length ≤ 2 ∧ (∀ p ∈ c.Parents, 0 ≤ p ∧ p ≤ 16) ∧ zaM c.Who = true ∧ zaJ c.Tree = true := by
  obtain ⟨i, hi⟩ := List.mem_iff_getElem?.1 hc
  have hil := zau hi
  have s1 := (zag h).1
  have := zfS h (i := i) (by omega)
  rw [zd0 hi] at this
  unfold zli at this
  simp only [Bool.and_eq_true, decide_eq_true_eq, List.all_eq_true] at this
  refine ⟨by omega, fun p hp => ?_, this.2.2.2.1, this.2.2.2.2⟩
  have h1 := this.1 p hp
  unfold upB at h1
  simp only [Bool.and_eq_true, decide_eq_true_eq] at h1
  omega
theorem znI {r : Repo} (h : zae r = true) : Bk.bulk r ≤ 20000 := by
  obtain ⟨s1, s2⟩ := zag h
  have h1 : sumB Bk.bulk r.Commits ≤ 1218 * r.Commits.length := zeB fun c hc => by
    obtain ⟨c1, _, c3, c4⟩ := zoF h hc
    have := zdK c3
    have := znH c4
    have hp : sumB Bk.bulk c.Parents ≤ 0 * c.Parents.length := zeB fun p hp => Nat.le_refl 0
    show c.Parents.length + sumB Bk.bulk c.Parents + (c.Who.length + Bk.bulk c.Tree) ≤ 1218
    omega
  have h2 : sumB Bk.bulk r.Heads ≤ 6 * r.Heads.length := zeB fun x hx => by
    have := zdK (zgF h hx).2.2
    show x.Name.length + 0 ≤ 6
    omega
  show r.Commits.length + sumB Bk.bulk r.Commits + (r.Heads.length + sumB Bk.bulk r.Heads) ≤ 20000
  omega
theorem znJ {t : List File} (h : zaJ t = true) : Bk.fit t := ⟨by have := zaG h; unfold maxi; omega, fun f hf => ⟨by have := zeA (zbB h hf); show f.Path.length ≤ maxi; unfold maxi; omega, by
  have h1 := zam h f hf
  have h2 := zar h1
  exact zcF (by omega) (zaX h1)⟩⟩
theorem znK {r : Repo} (h : zae r = true) : Bk.fit r := by
  obtain ⟨s1, s2⟩ := zag h
  refine ⟨⟨by unfold maxi; omega, fun c hc => ?_⟩, by unfold maxi; omega, fun x hx => ?_⟩
  · obtain ⟨c1, c2, c3, c4⟩ := zoF h hc
    refine ⟨⟨by unfold maxi; omega, fun p hp => ?_⟩, by have := zdK c3; show c.Who.length ≤ maxi; unfold maxi; omega, znJ c4⟩
    have := c2 p hp
    show -9223372036854775808 ≤ p ∧ p ≤ 9223372036854775807
    omega
  · obtain ⟨h1, h2, h3⟩ := zgF h hx
    refine ⟨by have := zdK h3; show x.Name.length ≤ maxi; unfold maxi; omega, ?_⟩
    show -9223372036854775808 ≤ x.At ∧ x.At ≤ 9223372036854775807
    omega
theorem zoe (l : List Str) (o a b : List File) (h : l = o.map (·.Path) ++ a.map (·.Path) ++ b.map (·.Path)) : zlI (zcS l) = zdn o a b := by
  refine Asd.ext (zgp _ none (znd _) (fun q hq => by cases hq)).1 (zjJ o a b) fun x => ?_
  rw [ziE, zjF, h, pathsF_mem]
  simp only [List.mem_append, List.mem_map]
  constructor
  · rintro ((h | h) | h)
    · exact .inl h
    · exact .inr (.inl h)
    · exact .inr (.inr h)
  · rintro (h | h | h)
    · exact .inl (.inl h)
    · exact .inl (.inr h)
    · exact .inr h
theorem zst {t : List File} (h : TB t) (p : Str) : zge t p = some (getT t p) := by
  have hm := h.maxi
  unfold zge getT
  simp only [jn, zak]
  rw [zdm (p := fun f : File => f.Path == p) (xs := t) (r := fun f => some (f.Text, true)) (Z := some ([], false)) (f := fun m k => zcZ t p _ m [] false k) (fun m i x hx => by
    have hf := h.at_ hx
    simp only [zcZ, zal hx, zaf hx, cond_true, Option.bind_some, za8 hf.len, zac (zau hx) hm]) (fun m => by simp only [zcZ, zad, cond_false]) (by omega)]
  cases t.find? (fun f => f.Path == p) <;> rfl
def zrA (t : List File) (p : Str) : has := ⟨(getT t p).1, (getT t p).2⟩
theorem zlr {t : List File} (h : TB t) (p : Str) : zgz t p = some (zrA t p) := by
  unfold zgz
  rw [zst h, Option.bind_some]
  rfl
theorem zkY {a b : List File} {p : Str} (h : TB a) : zeh (zrA a p) (zrA b p) = some (decide (getT a p = getT b p)) := by
  have hl := (zl9 h p).1
  unfold zeh zrA
  simp only [jn, zfr (zas hl), Option.bind_some]
  generalize getT a p = x at *
  generalize getT b p = y at *
  obtain ⟨x1, x2⟩ := x
  obtain ⟨y1, y2⟩ := y
  by_cases h1 : x1 = y1 <;> cases x2 <;> cases y2 <;> simp [h1]
theorem zls {o a b : List Str} (hto : zaB o = true) (hta : zaB a = true) (htb : zaB b = true) : ze2 o a b = some (zfP (zbw o a b)) := by
  have lo := zar hto
  have la := zar hta
  have lb := zar htb
  obtain ⟨hlen, hparts⟩ := zkS hto hta htb
  unfold ze2 zbl zfP
  rw [znc (zcF (by omega) (zaX hto)) (zcF (by omega) (zaX hta)) (zcF (by omega) (zaX htb)), hto, hta, htb, Option.bind_some]
  simp only [jn, zak, Bool.and_self, Bool.not_true, cond_false, zn5 (show o.length ≤ 1000 by omega) (show a.length ≤ 1000 by omega) (show b.length ≤ 1000 by omega), Option.bind_some]
  obtain ⟨h1, h2⟩ := zkR (xs := zbw o a b) (step := zkF) (r0 := some (([] : List Str), false)) (Inv := ztw) (s0 := []) (Z := fun s => (zbQ s).bind fun z30 => bif (!z30) then (some (([] : List Str), false)) else (some (s, true))) (f := fun m s i => zaz (zbw o a b) (fun _ _ y7 _ => (zbQ y7).bind fun z30 => bif (!z30) then (some (([] : List Str), false)) else (some (y7, true))) m [] false s i) (fun m i p s hx hI => by
    have hi := zau hx
    obtain ⟨p1, p2, _⟩ := hparts p (List.mem_of_getElem? hx)
    refine ⟨?_, fun s' hst => zl8 p1 p2 hI hst⟩
    have hs := hI.1
    simp only [zaz, zfa, jn, zal hx, zaf hx, cond_true, Option.bind_some, zac hi (show (zbw o a b).length ≤ maxi by unfold maxi; omega), apT (show s.length ≤ 1000000 by omega) (show p.Lines.length ≤ 1000000 by omega)]
    unfold zkF
    cases p.Clash <;> rfl) (fun m s hI => by simp only [zaz, zad, cond_false]) (m := (zbw o a b).length + 1) (by omega) ⟨by simp, by simp⟩
  rw [h1]
  cases hf : (zbw o a b).foldlM zkF [] with
  | none => rfl
  | some s =>
    have hI := h2 s hf
    have hs := hI.1
    show ((zbQ s).bind _).bind _ = some (okT s)
    rw [zfT (zcF (by omega) hI.2), Option.bind_some]
    unfold okT
    cases zaB s <;> rfl
theorem zpl (o a b : List File) (p : Str) : ((oneF o a b p).2.2 != (0 : Int)) = decide (0 < (oneF o a b p).2.2) := by
  have h : 0 ≤ (oneF o a b p).2.2 := by
    unfold oneF
    simp only [cond_eq_ite]
    repeat' split
    all_goals simp
  generalize (oneF o a b p).2.2 = k at *
  rw [Bool.eq_iff_iff]
  simp only [bne_iff_ne, decide_eq_true_eq]
  omega
section
variable {o a b : List File} (ho : TB o) (ha : TB a) (hb : TB b) (to : zbq o) (ta : zbq a) (tb : zbq b)
include ho ha hb to ta tb
theorem zpm (p : Str) : zha (zrA o p) (zrA a p) (zrA b p) = some (⟨(oneF o a b p).1, (oneF o a b p).2.1⟩, (oneF o a b p).2.2) := by
  have no := zlq (t := o) (p := p)
  have mt := zls (zbN to p) (zbN ta p) (zbN tb p)
  unfold zha oneF
  simp only [jn, zkY ha, zkY hb, Option.bind_some, zmj]
  unfold zrA
  simp only [mt, Option.bind_some]
  cases decide (getT a p = getT o p) <;> cases decide (getT a p = getT b p) <;> cases decide (getT b p = getT o p) <;> try rfl
  cases h1 : (getT a p).2 <;> cases h2 : (getT b p).2 <;> try rfl
  cases h3 : (getT o p).2 with
  | false => rw [no h3]; rfl
  | true => cases (zfP (zbw (getT o p).1 (getT a p).1 (getT b p).1)).2 <;> rfl
theorem zkZ {ps : List Str} (hp : ps.length ≤ 1000) {G : List File → List Clash → Int → Option (List File × List Clash)} : ∀ (k i m : Nat) (fs : List File) (cs : List Clash), i + k = ps.length → k < m → fs.length ≤ i → cs.length ≤ i →
    zdF o a b ps G m fs cs (i : Int) = G (fs ++ (ps.drop i).filterMap (zkG o a b)) (cs ++ (ps.drop i).filterMap (zjh o a b)) (ps.length : Int)
  | k, i, 0, fs, cs, _, hm, _, _ => by omega
  | 0, i, m + 1, fs, cs, hi, _, _, _ => by
    obtain rfl : i = ps.length := by omega
    simp only [zdF, zad, cond_false, List.drop_length]
    simp
  | k + 1, i, m + 1, fs, cs, hi, hm, hf, hc => by
    have hlt : i < ps.length := by omega
    have hx : ps[i]? = some ps[i] := List.getElem?_eq_getElem hlt
    have ih := fun fs cs h1 h2 => zkZ hp (G := G) k (i + 1) m fs cs (by omega) (by omega) h1 h2
    have eh : ∀ x : has, (⟨x.text, x.file⟩ : has) = x := fun _ => rfl
    simp only [zdF, jn, zal hx, zaf hx, cond_true, Option.bind_some, zac hlt (show ps.length ≤ maxi by unfold maxi; omega), zlr ho, zlr ha, zlr hb, eh, zpm ho ha hb to ta tb, zpl, ap1 (x := (⟨ps[i], (oneF o a b ps[i]).1⟩ : File)) (show fs.length ≤ 1048576 by omega), ap1 (x := (⟨ps[i], (oneF o a b ps[i]).2.2⟩ : Clash)) (show cs.length ≤ 1048576 by omega)]
    rw [List.drop_eq_getElem_cons hlt, List.filterMap_cons, List.filterMap_cons]
    unfold zkG zjh at ih ⊢
    cases (oneF o a b ps[i]).2.1 <;> cases decide (0 < (oneF o a b ps[i]).2.2) <;> simp only [cond_true, cond_false, Option.bind_some]
    · rw [ih _ _ (by omega) (by omega)]
    · rw [ih _ _ (by omega) (by simp; omega)]; simp
    · rw [ih _ _ (by simp; omega) (by omega)]; simp
    · rw [ih _ _ (by simp; omega) (by simp; omega)]; simp
end
theorem zjZ {t : List File} (h : TB t) {C : List Str → Int → Option (List Str)} : ∀ (k i m : Nat) (acc : List Str), i + k = t.length → k < m → acc.length ≤ 10000 + i → t.length ≤ 1000 →
    zcN t C m acc (i : Int) = C (acc ++ (t.drop i).map (·.Path)) (t.length : Int)
  | k, i, 0, acc, _, hm, _, _ => by omega
  | 0, i, m + 1, acc, hi, _, _, _ => by
    obtain rfl : i = t.length := by omega
    simp only [zcN, zad, cond_false, List.drop_length]
    simp
  | k + 1, i, m + 1, acc, hi, hm, hl, ht => by
    have hlt : i < t.length := by omega
    have hx : t[i]? = some t[i] := List.getElem?_eq_getElem hlt
    simp only [zcN, zal hx, zaf hx, cond_true, Option.bind_some, ap1 (x := t[i].Path) (show acc.length ≤ 1048576 by omega), zac hlt h.maxi]
    rw [zjZ h k (i + 1) m _ (by omega) (by omega) (by simp; omega) ht, List.drop_eq_getElem_cons hlt, List.map_cons, List.append_assoc]
    rfl
theorem znh {o a b : List File} (ho : TB o) (ha : TB a) (hb : TB b) (so : o.length ≤ 100) (sa : a.length ≤ 100) (sb : b.length ≤ 100) : zfy [o, a, b] = some (zdn o a b) := by
  unfold zfy
  simp only [jn, zak]
  have step : ∀ (K : List Str → Int → Option (List Str)) (m i : Nat) (t : List File) (acc : List Str), [o, a, b][i]? = some t → TB t → t.length ≤ 100 → acc.length ≤ 1000 → zbo [o, a, b] K (m + 1) acc (i : Int) = zbo [o, a, b] K m (acc ++ t.map (·.Path)) ((i + 1 : Nat) : Int) := fun K m i t acc hx ht hl ha => by
    have hi := zau hx
    simp only [zbo, jn, zal hx, zaf hx, cond_true, Option.bind_some, zak]
    have := zjZ ht (C := fun e g => zbo [o, a, b] K m e (w64 ((i : Int) + 1))) t.length 0 (t.length + 1) acc (by omega) (by omega) (by omega) (by omega)
    rw [List.drop_zero] at this
    refine this.trans ?_
    rw [zac hi (by simp [maxi])]
  have hlen : ([o, a, b] : List (List File)).length + 1 = 3 + 1 := rfl
  rw [hlen]
  refine (step _ 3 0 o [] rfl ho so (by simp)).trans ?_
  refine (step _ 2 1 a _ rfl ha sa (by simp; omega)).trans ?_
  refine (step _ 1 2 b _ rfl hb sb (by simp; omega)).trans ?_
  have he : ∀ (K : List Str → Int → Option (List Str)) (m : Nat) (acc : List Str), zbo [o, a, b] K (m + 1) acc ((2 + 1 : Nat) : Int) = K acc ((2 + 1 : Nat) : Int) := fun K m acc => rfl
  refine (he _ 0 _).trans ?_
  have e0 : [] ++ o.map (fun f : File => f.Path) ++ a.map (fun f : File => f.Path) ++ b.map (fun f : File => f.Path) = o.map (·.Path) ++ a.map (·.Path) ++ b.map (·.Path) := by simp
  rw [e0]
  have hl : (o.map (fun f : File => f.Path) ++ a.map (fun f : File => f.Path) ++ b.map (fun f : File => f.Path)).length ≤ 300 := by simp; omega
  generalize hL : o.map (fun f : File => f.Path) ++ a.map (fun f : File => f.Path) ++ b.map (fun f : File => f.Path) = L at *
  have h2 : (zcS L).length = L.length := List.length_mergeSort _
  unfold zay za2
  rw [if_pos (by omega), Option.bind_some, if_pos (by omega), Option.bind_some, zoe L o a b hL.symm]
section
variable {o a b : List File} (ho : TB o) (ha : TB a) (hb : TB b) (to : zaJ o = true) (ta : zaJ a = true) (tb : zaJ b = true)
include ho ha hb to ta tb
theorem zj0 : zeS o a b = some true := by
  unfold zeS
  simp only [jn, zen ho, zen ha, zen hb, to, ta, tb, Option.bind_some, cond_true]
theorem zof : zhb o a b = some (zec o a b) := by
  have so := zaG to
  have sa := zaG ta
  have sb := zaG tb
  have hl := ziG o a b
  unfold zhb zec
  rw [zj0 ho ha hb to ta tb, Option.bind_some, Bool.not_true, cond_false, znh ho ha hb (by omega) (by omega) (by omega), Option.bind_some]
  simp only [jn, zak]
  have := zkZ ho ha hb (zam to) (zam ta) (zam tb) (ps := zdn o a b) (by omega) (G := fun b' c _ => bif ((c.length : Int) == (0 : Int)) then ((zb1 b').bind fun h => bif !h then ((zcE o).bind fun g => some (g, ([⟨[], 4⟩] : List Clash))) else some (b', c)) else (bif false then ((zcE o).bind fun g => some (g, ([⟨[], 4⟩] : List Clash))) else some (b', c))) (zdn o a b).length 0 ((zdn o a b).length + 1) [] [] (by omega) (by omega) (by simp) (by simp)
  refine this.trans ?_
  simp only [List.drop_zero, List.nil_append]
  rw [show (zdn o a b).filterMap (zkG o a b) = zhx o a b from rfl, show (zdn o a b).filterMap (zjh o a b) = zhW o a b from rfl, zen (zjU ho ha hb (zam to) (zam ta) (zam tb) (by omega) (by omega) (by omega)), zhO ho]
  simp only [Option.bind_some]
  cases (((zhW o a b).length : Int) == 0) <;> cases zaJ (zhx o a b) <;> rfl
theorem zmk : zei o a b = some (bif decide (0 < ((zec o a b).2.length : Int)) then ([], false) else ((zec o a b).1, true)) := by
  unfold zei
  rw [zj0 ho ha hb to ta tb, Option.bind_some, Bool.not_true, cond_false, zof ho ha hb to ta tb, Option.bind_some]
  cases decide (0 < ((zec o a b).2.length : Int)) <;> rfl
end
theorem zgl.lt {l : List Int} (h : zgl l) {i k : Nat} (hik : i < k) (hk : k < l.length) : l.getD i 0 < l.getD k 0 := by
  have h1 : i < l.length := by omega
  have := List.pairwise_iff_getElem.1 h i k h1 hk hik
  rw [zdg (List.getElem?_eq_getElem h1), zdg (List.getElem?_eq_getElem hk)]
  exact this
theorem zgl.inj {l : List Int} (h : zgl l) {i k : Nat} (hi : i < l.length) (hk : k < l.length) (e : l.getD i 0 = l.getD k 0) : i = k := by
  rcases Nat.lt_trichotomy i k with h1 | h1 | h1
  · have := h.lt h1 hk; omega
  · exact h1
  · have := h.lt h1 hi; omega
theorem zso (x : Repo) : (⟨x.Commits, x.Heads⟩ : Repo) = x := rfl
theorem zhL {r : Repo} (h : RpB r) {a : Int} (ha : upB r.Commits.length a = true) : zaF r a = some (zaA r a.toNat) := by
  obtain ⟨a0, a1⟩ := zap.1 ha
  unfold zaF
  rw [decide_eq_false (by omega), cond_false, zeD a0 a1]
  rfl
section
variable {r : Repo} (h : RpB r) (hr : zae r = true)
include h hr
theorem zml : Gd False r := ⟨h, hr, fun e => e.elim⟩
theorem zsu {n : Str} (hn : n.length ≤ 1048576) {c : Commit} (hc : CB c) : ((zbc r).bind fun j => (zbM ⟨j.Commits, j.Heads⟩ n c.Who c.Tree c.Parents).bind fun k => (zcb r ⟨k.Commits, k.Heads⟩).bind fun b => bif (!b.2) then (some (Repo.mk b.1.Commits b.1.Heads, (5 : Int))) else (some (Repo.mk b.1.Commits b.1.Heads, 0))) = some (zgM r n c) := by
  obtain ⟨s1, s2⟩ := zag hr
  rw [ziI h, Option.bind_some, zso, zod h (by omega) (zji hr) hc.tree hc.who hc.par, Option.bind_some, zso, show (⟨c.Parents, c.Who, c.Tree⟩ : Commit) = c from rfl, zqI h (h.addR (by omega) (by omega) hn hc), Option.bind_some]
  unfold zgM
  cases zae (addR r n c) <;> rfl
theorem zqK {o a b : List File} (to : TB o) (ta : TB a) (tb : TB b) (uo : zaJ o = true) (ua : zaJ a = true) (ub : zaJ b = true) {ps : List Int} (hps : ps.length ≤ 2) {n who : Str} (hn : n.length ≤ 1048576) (hw : who.length ≤ 1048576) : ((zei o a b).bind fun h => bif (!h.2) then ((zbc r).bind fun i => some (Repo.mk i.Commits i.Heads, 4)) else ((zbc r).bind fun j => (zbM ⟨j.Commits, j.Heads⟩ n who h.1 ps).bind fun k => (zcb r ⟨k.Commits, k.Heads⟩).bind fun b => bif (!b.2) then (some (Repo.mk b.1.Commits b.1.Heads, (5 : Int))) else (some (Repo.mk b.1.Commits b.1.Heads, 0)))) = some (bif decide (0 < ((zec o a b).2.length : Int)) then (r, 4) else zgM r n ⟨ps, who, (zec o a b).1⟩) := by
  have so := zaG uo
  have sa := zaG ua
  have sb := zaG ub
  have hj := zmS to ta tb (zam uo) (zam ua) (zam ub) (by omega) (by omega) (by omega)
  rw [zmk to ta tb uo ua ub, Option.bind_some]
  cases decide (0 < ((zec o a b).2.length : Int)) with
  | true =>
    simp only [cond_true, Bool.not_false, ziI h, Option.bind_some]
  | false =>
    exact zsu h hr hn (c := ⟨ps, who, (zec o a b).1⟩) ⟨show ps.length ≤ 1048576 by omega, hw, hj⟩
end
def zrt (r : Repo) (n : Str) (x : Repo) : Prop := x = r ∨ x = zdc ∨ zae x = true
theorem zrt.bulk {r x : Repo} {n : Str} (h : zrt r n x) : Bk.bulk x ≤ Bk.bulk r + 20000 := by
  rcases h with h | h | h
  · rw [h]; omega
  · rw [h]; show 0 + 0 + (0 + 0) ≤ _; omega
  · have := znI h; omega
theorem zrt.fit {r x : Repo} {n : Str} (hf : Bk.fit r) (h : zrt r n x) : Bk.fit x := by
  rcases h with h | h | h
  · rw [h]; exact hf
  · rw [h]; exact ⟨⟨by simp [zdc, maxi], by simp [zdc]⟩, by simp [zdc, maxi], by simp [zdc]⟩
  · exact znK h
section
variable {r : Repo} (h : RpB r) (hr : zae r = true)
include h hr
theorem zmm {a : Int} (ha : upB r.Commits.length a = true) {Z : List File → Option (Repo × Int)} : ((zb9 r a).bind fun g => (zaF r g).bind Z) = Z (zdZ r a.toNat) := by
  obtain ⟨a0, a1⟩ := zap.1 ha
  obtain ⟨n, rfl⟩ := Int.eq_ofNat_of_zero_le a0
  rw [zpj hr (by omega), Option.bind_some, Int.toNat_natCast]
  unfold zdZ
  cases hp : zab r n with
  | nil => rfl
  | cons p ps =>
    have hm := (zaI hr (i := n) (by omega)).2 p (by rw [hp]; simp)
    have hz : (((p :: ps).length : Int) == (0 : Int)) = false := by
      rw [beq_eq_false_iff_ne]
      simp only [List.length_cons]
      omega
    rw [hz, cond_false]
    show (zaF r p).bind Z = _
    rw [zhL h (zap.2 (by omega)), Option.bind_some]
    rfl
theorem zmn {n who : Str} {o b : List File} (hn : n.length ≤ 1048576) (hw : who.length ≤ 1048576) (hat : 0 ≤ atB r n) (to : TB o) (uo : zaJ o = true) (tb : TB b) (ub : zaJ b = true) : zbj r n who o b = some (zgZ r n who o b) := by
  have hg := zml h hr
  have ha' : atB r n ≤ (r.Commits.length : Int) - 1 := by rcases at_range hr n with e | e <;> omega
  obtain ⟨ta, ta2, _, _⟩ := hg.tree (i := (atB r n).toNat) (by have := (zag hr).1; omega)
  unfold zbj
  rw [zm8 h, Option.bind_some, zhL h (zap.2 ⟨hat, ha'⟩), Option.bind_some]
  exact zqK h hr to ta tb uo ta2 ub (ps := [atB r n]) (by simp) hn hw
theorem zqL {n who : Str} {b : Int} (hn : n.length ≤ 1048576) (hw : who.length ≤ 1048576) (t : Bool) : zcO r n who b t = some (bif zn9 r n who b then (r, 1) else (bif t then zgZ r n who (zaA r b.toNat) (zdZ r b.toNat) else zgZ r n who (zdZ r b.toNat) (zaA r b.toNat))) := by
  have hg := zml h hr
  unfold zcO
  simp only [jn, zm8 h, Option.bind_some, zcG (zas hw), zl1 h, ziI h, zso]
  have key : zn9 r n who b = false → ((zb9 r b).bind fun g => (zaF r g).bind fun d => (zaF r b).bind fun e => bif t then ((zbj r n who e d).bind fun a => some (Repo.mk a.1.Commits a.1.Heads, a.2)) else ((zbj r n who d e).bind fun a => some (Repo.mk a.1.Commits a.1.Heads, a.2))) = some (bif t then zgZ r n who (zaA r b.toNat) (zdZ r b.toNat) else zgZ r n who (zdZ r b.toNat) (zaA r b.toNat)) := fun hbad => by
    obtain ⟨p1, p2, p3⟩ := zqG hbad
    have ub := zap.2 ⟨p2, p3⟩
    obtain ⟨_, q2, q3⟩ := zjW hg p2 p3
    obtain ⟨tb, tb2, _, _⟩ := hg.tree (i := b.toNat) (by have := (zag hr).1; omega)
    rw [zmm h hr ub (Z := fun d => (zaF r b).bind fun e => bif t then ((zbj r n who e d).bind fun a => some (Repo.mk a.1.Commits a.1.Heads, a.2)) else ((zbj r n who d e).bind fun a => some (Repo.mk a.1.Commits a.1.Heads, a.2))), zhL h ub, Option.bind_some]
    cases t with
    | true => rw [cond_true, cond_true, zmn h hr hn hw p1 tb tb2 q2 q3, Option.bind_some]
    | false => rw [cond_false, cond_false, zmn h hr hn hw p1 q2 q3 tb tb2, Option.bind_some]
  unfold zn9 at key ⊢
  cases h1 : decide (atB r n < 0) with
  | true => rfl
  | false =>
    cases h2 : zaM who with
    | false => rfl
    | true =>
      cases h3 : upB r.Commits.length b with
      | false => rfl
      | true => exact key (by rw [h1, h2, h3]; rfl)
end
def zog (r : Repo) (i : Nat) : Str := (r.Commits.getD i noCommit).Who
def zdL (r x : Repo) (n : Str) (i : Nat) : Repo × Int := zgZ x n (zog r i) (zdZ x i) (zaA x i)
def zlt (r : Repo) (n : Str) : List Int → Repo → Repo × Int
  | [], x => (x, 0)
  | i :: l, x => bif decide (1 < ((zab r i.toNat).length : Int)) then zlt r n l x else (bif (zdL r x n i.toNat).2 != 0 then (r, (zdL r x n i.toNat).2) else zlt r n l (zdL r x n i.toNat).1)
def ziK (r : Repo) (n : Str) (a : Int) : Repo × Int := bif zae r then (bif decide (atB r n < 0) || !upB r.Commits.length a then (r, 1) else zlt r n (zb3 r [a] (atB r n)) (headR r n a)) else (zdc, 1)
structure On (r : Repo) (n : Str) (x : Repo) : Prop where
  gd : Gd False x
  more : ∃ e, x.Commits = r.Commits ++ e
  at_ : 0 ≤ atB x n
theorem znL {r x : Repo} {n : Str} (h : On r n x) : r.Commits.length ≤ x.Commits.length := by
  obtain ⟨e, he⟩ := h.more
  rw [he, List.length_append]
  omega
theorem zlu {r : Repo} {n : Str} {a : Int} (h : RpB r) (hr : zae r = true) (hn : n.length ≤ 1048576) (ha : 0 ≤ atB r n) (hu : upB r.Commits.length a = true) : On r n (headR r n a) := by
  obtain ⟨u0, u1⟩ := zap.1 hu
  have ho := zqF hr ha u0 u1
  exact ⟨(zml h hr).head hn ho, ⟨[], (List.append_nil _).symm⟩, by rw [zmU ho]; exact u0⟩
theorem zt5 {r : Repo} (hr : zae r = true) {i : Nat} (hi : i < r.Commits.length) : zaM (zog r i) = true := by
  have := zfS hr hi
  unfold zli at this
  simp only [Bool.and_eq_true] at this
  exact this.2.2.2.1
theorem zpn {x : Repo} {n who : Str} {o b : List File} (h : (zgZ x n who o b).2 = 0) : ∃ c, (zgZ x n who o b).1 = addR x n c ∧ zae (addR x n c) = true := by
  unfold zgZ zgM at *
  simp only at *
  revert h
  cases decide (0 < ((zec o (zaA x (atB x n).toNat) b).2.length : Int)) with
  | true => intro h; cases h
  | false =>
    simp only [cond_false]
    cases ho : zae (addR x n ⟨[atB x n], who, (zec o (zaA x (atB x n).toNat) b).1⟩) with
    | false => intro h; cases h
    | true => intro _; exact ⟨_, rfl, ho⟩
section
variable {r x : Repo} {n : Str} (hr : zae r = true) (hn : n.length ≤ 1048576) (h : On r n x) {i : Nat} (hi : i < r.Commits.length)
include hr hn h hi
theorem zpo : (zog r i).length ≤ 1048576 ∧ (i : Int) ≤ (x.Commits.length : Int) - 1 ∧ zn9 x n (zog r i) (i : Int) = false := by
  have hl := znL h
  have hw := zt5 hr hi
  have := zdK hw
  refine ⟨by omega, by omega, ?_⟩
  unfold zn9
  rw [decide_eq_false (by have := h.at_; omega), hw, zap.2 ⟨by omega, by omega⟩]
  rfl
theorem zqM : zcO x n (zog r i) (i : Int) false = some (zdL r x n i) := by
  obtain ⟨b1, b2, b3⟩ := zpo hr hn h hi
  rw [zqL h.gd.rb h.gd.ok hn b1, b3]
  rfl
theorem znM : ((zdf x (i : Int)).bind fun z => zeI x n (zog r i) z (zaA x i)) = some (zdL r x n i) ∧ Gd False (zdL r x n i).1 := by
  obtain ⟨b1, b2, b3⟩ := zpo hr hn h hi
  have hl := znL h
  obtain ⟨e1, e2, e3⟩ := zjW h.gd (a := (i : Int)) (by omega) b2
  obtain ⟨t1, t2, _, _⟩ := h.gd.tree (i := i) (by omega)
  rw [Int.toNat_natCast] at e1 e2 e3
  rw [e1, Option.bind_some]
  exact zpi h.gd hn b1 h.at_ e2 e3 t1 t2
theorem zni (he : (zdL r x n i).2 = 0) : On r n (zdL r x n i).1 := by
  obtain ⟨_, hg⟩ := znM hr hn h hi
  obtain ⟨c, e1, e2⟩ := zpn he
  have e1' : (zdL r x n i).1 = addR x n c := e1
  obtain ⟨e, hm⟩ := h.more
  refine ⟨hg, ⟨e ++ [c], ?_⟩, ?_⟩
  · rw [e1', ← List.append_assoc, ← hm]
    rfl
  · rw [e1', show addR x n c = headR ⟨x.Commits ++ [c], x.Heads⟩ n (x.Commits.length : Int) from rfl, zmU (r := ⟨x.Commits ++ [c], x.Heads⟩) e2]
    omega
end
theorem zk0 {r : Repo} {n : Str} (hr : zae r = true) (hn : n.length ≤ 1048576) : ∀ (l : List Int) (x : Repo), (∀ i ∈ l, upB r.Commits.length i = true) → On r n x → zrt r n (zlt r n l x).1
  | [], x, _, h => .inr (.inr h.gd.ok)
  | i :: l, x, hl, h => by
    obtain ⟨u0, u1⟩ := zap.1 (hl i (by simp))
    have hi : i.toNat < r.Commits.length := by omega
    have ih := fun x h => zk0 (n := n) hr hn l x (fun j hj => hl j (List.mem_cons_of_mem _ hj)) h
    unfold zlt
    cases decide (1 < ((zab r i.toNat).length : Int)) with
    | true => exact ih x h
    | false =>
      rw [cond_false]
      cases he : (zdL r x n i.toNat).2 != 0 with
      | true => exact .inl rfl
      | false => exact ih _ (zni hr hn h hi (by simpa using he))
def ChH : Int → List Hunk → Prop
  | _, [] => True
  | lo, d :: l => lo ≤ d.At ∧ ChH (d.At + d.Less.length + 1) l
theorem ChH.mono : ∀ {l : List Hunk} {lo lo' : Int}, lo' ≤ lo → ChH lo l → ChH lo' l
  | [], _, _, _, _ => trivial
  | d :: l, _, _, h, ⟨h1, h2⟩ => ⟨Int.le_trans h h1, h2⟩
section
variable {r : Repo} {n : Str} (hr : zae r = true) (h : RpB r) (hn : n.length ≤ 1048576) {l : List Int} (hl : ∀ i ∈ l, upB r.Commits.length i = true) (hlen : l.length ≤ 1000)
include hr h hn hl hlen
theorem zk1 : ∀ (k i m : Nat) (x : Repo) (f : Int) (g : List Commit) (e : List Head), i + k = l.length → k < m → On r n x →
    zcK r n l (fun _ _ _ _ c d => some (Repo.mk c d, (0 : Int))) m f (i : Int) g e x.Commits x.Heads = some (zlt r n (l.drop i) x)
  | k, i, 0, _, _, _, _, _, hm, _ => by omega
  | 0, i, m + 1, x, f, g, e, hi, _, ho => by
    obtain rfl : i = l.length := by omega
    simp only [zcK, zad, cond_false, List.drop_length]
    rfl
  | k + 1, i, m + 1, x, f, g, e, hi, hm, ho => by
    have hlt : i < l.length := by omega
    have hx : l[i]? = some l[i] := List.getElem?_eq_getElem hlt
    obtain ⟨u0, u1⟩ := zap.1 (hl l[i] (List.getElem_mem hlt))
    have ih := fun x f g e ho => zk1 k (i + 1) m x f g e (by omega) (by omega) ho
    have hol := znL ho
    rw [List.drop_eq_getElem_cons hlt]
    generalize l[i] = z at *
    obtain ⟨c, rfl⟩ := Int.eq_ofNat_of_zero_le u0
    have hc : c < r.Commits.length := by omega
    simp only [zcK, jn, zal hx, zaf hx, cond_true, Option.bind_some, zac hlt (show l.length ≤ maxi by unfold maxi; omega), zeD (r := r) u0 u1, zeD (r := x) u0 (show (c : Int) ≤ (x.Commits.length : Int) - 1 by omega), Int.toNat_natCast]
    obtain ⟨q1, q2⟩ := znM hr hn ho hc
    unfold zlt
    rw [Int.toNat_natCast]
    show (bif decide (1 < ((zab r c).length : Int)) then _ else _) = _
    cases decide (1 < ((zab r c).length : Int)) with
    | true => simp only [cond_true]; exact ih x f g e ho
    | false =>
      simp only [cond_false]
      have key : ∀ E : Repo × Int → Option (Repo × Int), ((zdf ⟨x.Commits, x.Heads⟩ (c : Int)).bind fun u => (zeI ⟨x.Commits, x.Heads⟩ n (r.Commits.getD c noCommit).Who u (x.Commits.getD c noCommit).Tree).bind E) = E (zdL r x n c) := fun E => by
        rw [← Option.bind_assoc]
        exact (congrArg (fun o => Option.bind o E) q1).trans rfl
      rw [key]
      cases he : (zdL r x n c).2 != 0 with
      | true => simp only [cond_true, zl3 h, Option.bind_some]
      | false => simp only [cond_false]; exact ih _ f g e (zni hr hn ho hc (by simpa using he))
theorem zk2 : ∀ (k i m : Nat) (x : Repo) (f : Int) (g : List Commit) (e : List Head), i + k = l.length → k < m → On r n x →
    zcP r n l (fun _ _ _ _ c d => some (Repo.mk c d, (0 : Int))) m f (i : Int) g e x.Commits x.Heads = some (zlt r n (l.drop i) x)
  | k, i, 0, _, _, _, _, _, hm, _ => by omega
  | 0, i, m + 1, x, f, g, e, hi, _, ho => by
    obtain rfl : i = l.length := by omega
    simp only [zcP, zad, cond_false, List.drop_length]
    rfl
  | k + 1, i, m + 1, x, f, g, e, hi, hm, ho => by
    have hlt : i < l.length := by omega
    have hx : l[i]? = some l[i] := List.getElem?_eq_getElem hlt
    obtain ⟨u0, u1⟩ := zap.1 (hl l[i] (List.getElem_mem hlt))
    have ih := fun x f g e ho => zk2 k (i + 1) m x f g e (by omega) (by omega) ho
    have hol := znL ho
    rw [List.drop_eq_getElem_cons hlt]
    generalize l[i] = z at *
    obtain ⟨c, rfl⟩ := Int.eq_ofNat_of_zero_le u0
    have hc : c < r.Commits.length := by omega
    simp only [zcP, jn, zal hx, zaf hx, cond_true, Option.bind_some, zac hlt (show l.length ≤ maxi by unfold maxi; omega), zeD (r := r) u0 u1, Int.toNat_natCast]
    unfold zlt
    rw [Int.toNat_natCast]
    show (bif decide (1 < ((zab r c).length : Int)) then _ else _) = _
    cases decide (1 < ((zab r c).length : Int)) with
    | true => simp only [cond_true]; exact ih x f g e ho
    | false =>
      simp only [cond_false]
      have q1 : zcO ⟨x.Commits, x.Heads⟩ n (r.Commits.getD c noCommit).Who (c : Int) false = some (zdL r x n c) := zqM hr hn ho hc
      rw [q1, Option.bind_some]
      cases he : (zdL r x n c).2 != 0 with
      | true => simp only [cond_true, ziI h, Option.bind_some]
      | false => simp only [cond_false]; exact ih _ f g e (zni hr hn ho hc (by simpa using he))
end
theorem znj {r : Repo} {a b : Int} : ∀ i ∈ zb3 r [a] b, upB r.Commits.length i = true := fun i hi => zap.2 (zaZ (zeN.1 hi).1)
theorem zmo {r : Repo} (h : RpB r) {n : Str} {a : Int} (hn : n.length ≤ 1048576) : zfx r n a = some (ziK r n a) := by
  unfold zfx ziK
  rw [zkD h, Option.bind_some]
  cases hr : zae r with
  | false => rfl
  | true =>
    have hs := (zag hr).1
    have hh := (zag hr).2
    rw [Bool.not_true, cond_false, cond_true]
    simp only [jn, zkE h, Option.bind_some, zgV, zf1 (zas h.coms), zl3 h, zoc h, zso]
    rw [show (decide ((0 : Int) ≤ a) && decide (a ≤ (r.Commits.length : Int) - 1)) = upB r.Commits.length a from rfl]
    cases h1 : decide (atB r n < 0) with
    | true => rfl
    | false =>
      cases h2 : upB r.Commits.length a with
      | false => rfl
      | true =>
        have p1 : 0 ≤ atB r n := by simpa using h1
        have ha' : atB r n ≤ (r.Commits.length : Int) - 1 := by rcases at_range hr n with e | e <;> omega
        have e1 : zlp r a (atB r n) = zb3 r [a] (atB r n) := by
          unfold zlp
          rw [hr, h2, zap.2 ⟨p1, ha'⟩]
          rfl
        have hll := zjn r [a] (atB r n)
        simp only [Bool.not_true, cond_false, Bool.or_self, e1, zak]
        rw [zl5 h (by omega), Option.bind_some]
        have := zk1 hr h hn (l := zb3 r [a] (atB r n)) znj (by omega) (zb3 r [a] (atB r n)).length 0 ((zb3 r [a] (atB r n)).length + 1) (headR r n a) 0 [] [] (by omega) (by omega) (zlu h hr hn p1 h2)
        rw [List.drop_zero] at this
        exact this
theorem zmp {r : Repo} (h : RpB r) {n : Str} {a : Int} (hn : n.length ≤ 1048576) : zeT r n a = some (ziK r n a) := by
  unfold zeT ziK
  rw [zje h, Option.bind_some]
  cases hr : zae r with
  | false => rfl
  | true =>
    have hs := (zag hr).1
    rw [Bool.not_true, cond_false, cond_true]
    simp only [jn, zm8 h, Option.bind_some, zl1 h, ziI h, zso]
    cases h1 : decide (atB r n < 0) with
    | true => rfl
    | false =>
      cases h2 : upB r.Commits.length a with
      | false => rfl
      | true =>
        have p1 : 0 ≤ atB r n := by simpa using h1
        have ha' : atB r n ≤ (r.Commits.length : Int) - 1 := by rcases at_range hr n with e | e <;> omega
        have hll := zjn r [a] (atB r n)
        simp only [Bool.not_true, cond_false, Bool.or_self, zak]
        rw [zmg h (zji hr), Option.bind_some, zpk hr (zap.2 ⟨p1, ha'⟩) (by simp) (fun g hg => by rw [List.mem_singleton.1 hg]; exact h2), Option.bind_some]
        have := zk2 hr h hn (l := zb3 r [a] (atB r n)) znj (by omega) (zb3 r [a] (atB r n)).length 0 ((zb3 r [a] (atB r n)).length + 1) (headR r n a) 0 [] [] (by omega) (by omega) (zlu h hr hn p1 h2)
        rw [List.drop_zero] at this
        exact this
theorem zoh {r : Repo} (h : RpB r) {n : Str} {a : Int} (hn : n.length ≤ 1048576) : zrt r n (ziK r n a).1 := by
  unfold ziK
  cases hr : zae r with
  | false => exact .inr (.inl rfl)
  | true =>
    rw [cond_true]
    cases h1 : decide (atB r n < 0) with
    | true => exact .inl rfl
    | false =>
      cases h2 : upB r.Commits.length a with
      | false => exact .inl rfl
      | true => exact zk0 hr hn _ _ znj (zlu h hr hn (by simpa using h1) h2)
theorem zku {repo : Repo} {name : Str} {b : Int} (h : Bk.fit repo) (hw : Bk.fit name) (hb' : Bk.fit b) : zc1 repo name b = some true := by
  unfold zc1
  by_cases hc : (1048576 : Int) < (name.length : Int)
  · rw [decide_eq_true hc]; rfl
  rw [decide_eq_false hc, cond_false, zrp h (by omega) (by omega), Option.bind_some]
  by_cases hb : (Bk.bulk repo : Int) ≤ 1048576
  case neg => rw [if_neg hb]; rfl
  rw [if_pos hb, decide_eq_false (by omega), cond_false]
  have b1 : Bk.bulk repo ≤ 1048576 := by omega
  have hr := RpB.of h b1
  have hn : name.length ≤ 1048576 := by omega
  have ho := zoh hr (a := b) hn
  have hf := ho.fit h
  have b2 := ho.bulk
  have c1 := ziZ repo
  have c2 := ziZ (ziK repo name b).1
  have hg : Bk.fit (zbA.wr 1 (ziK repo name b).1).2 := zp2 1 _ (by omega) (by omega) hf
  have c3 := zbA.cnt 1 (ziK repo name b).1
  have e2 := zbA.again 1 (ziK repo name b).1
  have f1 : (zbA.wr 1 repo).1 = 1 + (zbA.cn repo : Int) := zbA.fst _ _
  have n1 : decide ((zbA.wr 1 repo).1 < 0) = false := decide_eq_false (by rw [f1]; omega)
  have n2 : decide ((zbA.wr 1 (ziK repo name b).1).1 < 0) = false := decide_eq_false (by rw [zbA.fst]; omega)
  simp only [zrq b1, Option.bind_some, zso, zmo hr hn, zmp hr hn, jn, zoz hf, zoz h, beq_self_eq_true, Bool.not_true, cond_false, bne_self_eq_false,
    zlh (x := repo) (k := 1) (by omega) (by omega) h, n1, zlh (x := (ziK repo name b).1) (k := 1) (by omega) (by omega) hf,
    zsn (zbA.held_wr 1 (ziK repo name b).1) (show (0 : Int) ≤ 1 by omega) (by omega) hg, e2, n2]
def zkI : List Str → List Str → Nat
  | a :: l, b :: m => bif a == b then zkI l m + 1 else 0
  | _, _ => 0
def zvl (t : List Str) : List Str → Nat → Nat × Nat → Nat × Nat
  | [], _, r => r
  | b :: bs, i, r => zvl t bs (i + 1) (bif decide (r.2 < zkI (b :: bs) t) then (i, zkI (b :: bs) t) else r)
def zoG (base t : List Str) : Nat × Nat := zvl t base 0 (0, 0)
def zoQ (out : List Delta) (x : Str) : List Delta := match out.getLast? with
  | some d => bif decide (0 < d.Lines.length) then out.dropLast ++ [⟨d.From, d.Many, d.Lines ++ [x]⟩] else out ++ [⟨0, 0, [x]⟩]
  | none => out ++ [⟨0, 0, [x]⟩]
def zin (base : List Str) : Nat → List Delta → List Str → List Delta
  | 0, out, _ => out
  | _ + 1, out, [] => out
  | n + 1, out, x :: t => bif decide (0 < (zoG base (x :: t)).2) then zin base n (out ++ [⟨(zoG base (x :: t)).1, (zoG base (x :: t)).2, []⟩]) ((x :: t).drop (zoG base (x :: t)).2) else zin base n (zoQ out x) t
def zkv (base t : List Str) : List Delta := zin base t.length [] t
def OD (n : Nat) (l : List Owner) : Prop := l.length ≤ n ∧ ∀ o ∈ l, o.Path.length ≤ 10 ∧ o.Who.length ≤ 10
theorem OD.fit {n : Nat} {l : List Owner} (h : OD n l) (hn : n ≤ 1000) : Bk.fit l := ⟨by have := h.1; unfold maxi; omega, fun o ho => by
  have := h.2 o ho
  exact ⟨by show o.Path.length ≤ maxi; unfold maxi; omega, by show o.Who.length ≤ maxi; unfold maxi; omega⟩⟩
section
variable {base t : List Str} (hb : zaB base = true) (ht : zaB t = true)
include hb ht
end
def ztZ (list : List (List Str)) (ds : List Int) (i : Nat) (t : List Str) (b dep : Int) (d : List Delta) : Prop := (b = -1 ∧ d = zkv [] t ∧ dep = 1) ∨ ∃ k o dk, k < i ∧ b = (k : Int) ∧ list[k]? = some o ∧ ds[k]? = some dk ∧ d = zkv o t ∧ dep = dk + 1 ∧ dk ≤ 2
theorem ztZ.snoc {list : List (List Str)} {ds : List Int} {i : Nat} {t : List Str} {b dep z : Int} {d : List Delta} (h : ztZ list ds i t b dep d) : ztZ list (ds ++ [z]) i t b dep d := by
  rcases h with h | ⟨k, o, dk, h1, h2, h3, h4, h5⟩
  · exact .inl h
  · exact .inr ⟨k, o, dk, h1, h2, h3, by rw [List.getElem?_append_left (List.getElem?_eq_some_iff.1 h4).1]; exact h4, h5⟩
section
variable {list : List (List Str)} (h12 : list.length ≤ 12) (hl : ∀ t ∈ list, zaB t = true)
include h12 hl
end
end Go.Vm
