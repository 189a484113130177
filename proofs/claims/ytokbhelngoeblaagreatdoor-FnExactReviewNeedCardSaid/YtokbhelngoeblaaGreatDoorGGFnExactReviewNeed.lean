/- Plain law FnExactReviewNeed, and what it uses: what the models answer. Conditions: each law's own premises. -/
import Derived.Test.YtokbhelngoeblaaGreatDoorGM0
import Derived.Test.YtokbhelngoeblaaGreatDoorGM2
import Derived.Test.YtokbhelngoeblaaGreatDoorGLw
import Derived.Sort.Walk0
import Derived.Test.YtokbhelngoeblaaGreatDoorGX
import Derived.Lib.SplitLaws
import Derived.Lib.Join
namespace Go.Vm
open Go Go.Sx
set_option linter.unusedSimpArgs false
set_option linter.unusedVariables false
def chB (c : UInt8) : Bool := !(decide ((c.toNat : Int) < 32) || decide (126 < (c.toNat : Int)))
def zdz (s : Str) : Bool := !decide (12 < (s.length : Int)) && s.all chB
def zaB (xs : List Str) : Bool := !decide (10 < (xs.length : Int)) && xs.all zdz
theorem zlL (a b : Int) : decide (a ≤ b) = !decide (b < a) := by
  by_cases h : a ≤ b
  · rw [decide_eq_true h, decide_eq_false (by omega)]; rfl
  · rw [decide_eq_false h, decide_eq_true (by omega)]; rfl
theorem zlM {s : Str} (h : s.length ≤ maxi) : zfG s = some (zdz s) := by
  unfold zfG zdz
  simp only [jn, zak]
  cases decide ((12 : Int) < (s.length : Int))
  case true => rfl
  rw [cond_false, zbg (α := UInt8) (xs := s) (p := chB) (r0 := some false) (Z := some true) (f := fun m i => zcl s (fun _ _ => some true) m false i) (fun m i x hx => by
    simp only [zcl, jn, zal hx, ziB hx, cond_true, Option.bind_some, zac (zau hx) h, chB]
    cases decide ((x.toNat : Int) < 32) <;> cases decide (126 < (x.toNat : Int)) <;> rfl) (fun m => by simp only [zcl, zad, cond_false]) (by omega)]
  cases s.all chB <;> rfl
theorem zlN {s : Str} (h : s.length ≤ maxi) : zfF s = some (zdz s) := by
  unfold zfF zdz
  simp only [jn, zak, zlL]
  rw [zbg (α := UInt8) (xs := s) (p := chB) (r0 := some false) (Z := some (!decide (12 < (s.length : Int)))) (f := fun m i => zci s (fun _ _ => some (!decide (12 < (s.length : Int)))) m false i) (fun m i x hx => by
    simp only [zci, jn, zal hx, ziB hx, cond_true, Option.bind_some, zac (zau hx) h, chB]
    cases decide ((x.toNat : Int) < 32) <;> cases decide (126 < (x.toNat : Int)) <;> rfl) (fun m => by simp only [zci, zad, cond_false]) (by omega)]
  cases s.all chB <;> cases decide (12 < (s.length : Int)) <;> rfl
theorem zfT {xs : List Str} (h : Bk.fit xs) : zbQ xs = some (zaB xs) := by
  have hl := zb6 h
  unfold zbQ zaB
  simp only [jn, zak]
  cases decide ((10 : Int) < (xs.length : Int))
  case true => rfl
  rw [cond_false, zbg (α := Str) (xs := xs) (p := zdz) (r0 := some false) (Z := some true) (f := fun m i => zcm xs (fun _ _ => some true) m false i) (fun m i x hx => by
    have hx2 : x.length ≤ maxi := zfY h hx
    simp only [zcm, zal hx, zaf hx, cond_true, Option.bind_some, zac (zau hx) hl, zlM hx2]
    cases zdz x <;> rfl) (fun m => by simp only [zcm, zad, cond_false]) (by omega)]
  cases xs.all zdz <;> rfl
theorem ziC {xs : List Str} (h : Bk.fit xs) : zdq xs = some (zaB xs) := by
  have hl := zb6 h
  unfold zdq zaB
  simp only [jn, zak, zlL]
  rw [zbg (α := Str) (xs := xs) (p := zdz) (r0 := some false) (Z := some (!decide (10 < (xs.length : Int)))) (f := fun m i => zdp xs (fun _ _ => some (!decide (10 < (xs.length : Int)))) m false i) (fun m i x hx => by
    have hx2 : x.length ≤ maxi := zfY h hx
    simp only [zdp, zal hx, zaf hx, cond_true, Option.bind_some, zac (zau hx) hl, zlN hx2]
    cases zdz x <;> rfl) (fun m => by simp only [zdp, zad, cond_false]) (by omega)]
  cases xs.all zdz <;> cases decide (10 < (xs.length : Int)) <;> rfl
theorem zar {t : List Str} (h : zaB t = true) : t.length ≤ 10 := by
  unfold zaB at h
  simp only [Bool.and_eq_true, Bool.not_eq_true', decide_eq_false_iff_not] at h
  omega
theorem zaX {t : List Str} (h : zaB t = true) : ∀ s ∈ t, zdz s = true := by
  unfold zaB at h
  simp only [Bool.and_eq_true, List.all_eq_true] at h
  exact h.2
theorem zie {s : Str} (h : zdz s = true) : s.length ≤ 12 := by
  unfold zdz at h
  simp only [Bool.and_eq_true, Bool.not_eq_true', decide_eq_false_iff_not] at h
  omega
theorem zfr {xs ys : List Str} (h : xs.length ≤ maxi) : zaw xs ys = some (xs == ys) := by
  unfold zaw
  simp only [ziO, jn, zak]
  by_cases hn : xs.length = ys.length
  · rw [hn, beq_self_eq_true, Bool.not_true, cond_false, ← hn]
    rw [ziN (α := Str) (r0 := some false) (Z := some true) (f := fun m i => zax xs ys (fun _ _ => some true) m false i) hn (fun m i x y hx hy => by
      simp only [zax, zal hx, zaf hx, zaf hy, cond_true, Option.bind_some, zac (zau hx) h, bne]
      cases x == y <;> rfl) (fun m => by simp only [zax, zad, cond_false]) (by omega)]
    cases xs == ys <;> rfl
  · rw [beq_false_of_ne hn, Bool.not_false, cond_true, beq_false_of_ne (fun e => hn (by rw [e]))]
theorem zgj {xs ys : List Str} (h : xs.length ≤ maxi) : zdi xs ys = some (xs == ys) := by
  unfold zdi
  simp only [ziO, jn, zak]
  by_cases hn : xs.length = ys.length
  · rw [hn, beq_self_eq_true, Bool.not_true, cond_false, ← hn]
    rw [ziN (α := Str) (r0 := some false) (Z := some true) (f := fun m i => zcj xs ys (fun _ _ => some true) m false i) hn (fun m i x y hx hy => by
      simp only [zcj, zal hx, zaf hx, zaf hy, cond_true, Option.bind_some, zac (zau hx) h, bne]
      cases x == y <;> rfl) (fun m => by simp only [zcj, zad, cond_false]) (by omega)]
    cases xs == ys <;> rfl
  · rw [beq_false_of_ne hn, Bool.not_false, cond_true, beq_false_of_ne (fun e => hn (by rw [e]))]
theorem za8 {x : List Str} (h : x.length ≤ 1048576) : zbu x = some x := by
  unfold zbu
  rw [apN h]; rfl
def zsq (r : l30Rd) (p : Int) : Prop := r.b.length ≤ 2000 ∧ 0 ≤ r.p ∧ r.p ≤ p
theorem zsq.on {r : l30Rd} {p q : Int} (h : zsq r p) (k : Int) (hk : 0 ≤ k) (hq : r.p + k ≤ q) : zsq ⟨r.b, r.p + k⟩ q := ⟨h.1, by have := h.2.1; show 0 ≤ r.p + k; omega, hq⟩
def zgb : List Str → List Str → Int
  | [], _ => 0
  | _ :: _, [] => 0
  | x :: xs, y :: ys => if x == y then zgb xs ys + 1 else zq7 (zgb xs (y :: ys)) (zgb (x :: xs) ys)
termination_by a b => a.length + b.length
theorem zkh (b : List Str) : zgb [] b = 0 := by rw [zgb]
theorem zi5 (a : List Str) : zgb a [] = 0 := by cases a <;> rw [zgb]
theorem zi6 (x y : Str) (xs ys : List Str) : zgb (x :: xs) (y :: ys) = if x == y then zgb xs ys + 1 else zq7 (zgb xs (y :: ys)) (zgb (x :: xs) ys) := by rw [zgb]
theorem zdl : ∀ (n : Nat) (a b : List Str), a.length + b.length ≤ n → 0 ≤ zgb a b ∧ zgb a b ≤ a.length
  | _, [], b, _ => by rw [zkh]; simp
  | _, x :: xs, [], _ => by rw [zi5]; simp; omega
  | 0, x :: xs, y :: ys, h => by simp at h
  | n + 1, x :: xs, y :: ys, h => by
    simp only [List.length_cons] at h
    have h1 := zdl n xs ys (by omega)
    have h2 := zdl n xs (y :: ys) (by simp; omega)
    have h3 := zdl n (x :: xs) ys (by simp; omega)
    rw [zi6]
    simp only [List.length_cons] at *
    split
    · omega
    · unfold zq7; split <;> omega
theorem zo6 (a b : List Str) : 0 ≤ zgb a b := (zdl _ a b (Nat.le_refl _)).1
theorem zo7 (a b : List Str) : zgb a b ≤ a.length := (zdl _ a b (Nat.le_refl _)).2
def zgo (n : Nat) (g : Nat → Int) : List Int := (List.range n).map g
def zfk (n m : Nat) (f : Nat → Nat → Int) : List (List Int) := (List.range n).map fun i => zgo m (f i)
theorem zkP {n : Nat} {g g' : Nat → Int} (h : ∀ k, k < n → g k = g' k) : zgo n g = zgo n g' := by
  unfold zgo
  exact List.map_congr_left fun k hk => h k (List.mem_range.1 hk)
theorem zex {n m : Nat} {f f' : Nat → Nat → Int} (h : ∀ i k, i < n → k < m → f i k = f' i k) : zfk n m f = zfk n m f' := by
  unfold zfk
  exact List.map_congr_left fun i hi => zkP fun k hk => h i k (List.mem_range.1 hi) hk
theorem zgR {n k : Nat} {g : Nat → Int} (h : k < n) : gi (zgo n g) (k : Int) = some (g k) := zaf (by simp [zgo, h])
theorem zgS {n m i : Nat} {f : Nat → Nat → Int} (h : i < n) : gi (zfk n m f) (i : Int) = some (zgo m (f i)) := zaf (by simp [zfk, h])
theorem zki {n k : Nat} {g : Nat → Int} {v : Int} (h : k < n) : siM (zgo n g) (k : Int) v = some (zgo n fun k' => if k' = k then v else g k') := by
  rw [zbG (by simp [zgo, h])]
  congr 1
  apply List.ext_getElem?
  intro j
  unfold zgo
  by_cases hj : j = k
  · subst hj
    rw [List.getElem?_set_self (by simp [h])]
    simp [h]
  · rw [List.getElem?_set_ne (Ne.symm hj)]
    by_cases hl : j < n
    · simp [hl, hj]
    · rw [List.getElem?_eq_none (by simp; omega), List.getElem?_eq_none (by simp; omega)]
theorem zkj {n m i : Nat} {f : Nat → Nat → Int} {g : Nat → Int} (h : i < n) : siM (zfk n m f) (i : Int) (zgo m g) = some (zfk n m fun i' => if i' = i then g else f i') := by
  rw [zbG (by simp [zfk, h])]
  congr 1
  apply List.ext_getElem?
  intro j
  unfold zfk
  by_cases hj : j = i
  · subst hj
    rw [List.getElem?_set_self (by simp [h])]
    simp [h]
  · rw [List.getElem?_set_ne (Ne.symm hj)]
    by_cases hl : j < n
    · simp [hl, hj]
    · rw [List.getElem?_eq_none (by simp; omega), List.getElem?_eq_none (by simp; omega)]
section
variable (a b : List Str)
def za5 (i k : Nat) : Int := zgb (a.drop i) (b.drop k)
def zbf (i k i' k' : Nat) : Int := if i < i' ∨ (i = i' ∧ k ≤ k') then za5 a b i' k' else 0
def zp9 : List (List Int) := zfk (a.length + 1) (b.length + 1) (za5 a b)
end
section
variable {a b : List Str}
theorem zlO (i : Nat) : za5 a b i b.length = 0 := by unfold za5; rw [List.drop_length, zi5]
theorem zkQ (k : Nat) : za5 a b a.length k = 0 := by unfold za5; rw [List.drop_length, zkh]
theorem zkk (i k : Nat) : 0 ≤ za5 a b i k := zo6 _ _
theorem zkl (i k : Nat) : za5 a b i k ≤ a.length := by
  have := zo7 (a.drop i) (b.drop k)
  unfold za5
  simp only [List.length_drop] at this
  omega
theorem zhT {i k : Nat} {x y : Str} (hx : a[i]? = some x) (hy : b[k]? = some y) : za5 a b i k = if x == y then za5 a b (i + 1) (k + 1) + 1 else zq7 (za5 a b (i + 1) k) (za5 a b i (k + 1)) := by
  have hi := zau hx
  have hk := zau hy
  have ex : a[i] = x := by rw [List.getElem?_eq_getElem hi] at hx; exact Option.some.inj hx
  have ey : b[k] = y := by rw [List.getElem?_eq_getElem hk] at hy; exact Option.some.inj hy
  unfold za5
  rw [List.drop_eq_getElem_cons hi, List.drop_eq_getElem_cons hk, zi6, ex, ey]
theorem zel {i k : Nat} {v : Int} (hv : v = za5 a b i k) (n m : Nat) : zfk n m (fun i' => if i' = i then (fun k' => if k' = k then v else zbf a b i (k + 1) i k') else zbf a b i (k + 1) i') = zfk n m (zbf a b i k) := by
  refine zex fun i' k' _ _ => ?_
  by_cases h1 : i' = i
  · subst h1
    rw [if_pos rfl]
    by_cases h2 : k' = k
    · subst h2
      rw [if_pos rfl, hv]
      simp [zbf]
    · rw [if_neg h2]
      simp only [zbf, Nat.lt_irrefl, false_or, true_and]
      by_cases h3 : k + 1 ≤ k'
      · rw [if_pos h3, if_pos (by omega)]
      · rw [if_neg h3, if_neg (by omega)]
  · rw [if_neg h1]
    simp only [zbf]
    by_cases h3 : i < i'
    · rw [if_pos (.inl h3), if_pos (.inl h3)]
    · rw [if_neg (by omega), if_neg (by omega)]
theorem zhU (i : Nat) : zfk (a.length + 1) (b.length + 1) (zbf a b (i + 1) 0) = zfk (a.length + 1) (b.length + 1) (zbf a b i b.length) := by
  refine zex fun i' k' _ hk => ?_
  simp only [zbf, Nat.zero_le, and_true]
  by_cases h : i < i'
  · rw [if_pos (by omega), if_pos (.inl h)]
  · rw [if_neg (by omega)]
    by_cases h2 : i = i' ∧ b.length ≤ k'
    · rw [if_pos (.inr h2), show k' = b.length by omega, zlO]
    · rw [if_neg (by omega)]
theorem zgT : zfk (a.length + 1) (b.length + 1) (fun _ _ => 0) = zfk (a.length + 1) (b.length + 1) (zbf a b a.length 0) := by
  refine zex fun i' k' hi _ => ?_
  simp only [zbf, Nat.zero_le, and_true]
  by_cases h : a.length < i' ∨ a.length = i'
  · rw [if_pos h, show i' = a.length by omega, zkQ]
  · rw [if_neg h]
theorem zi7 : zfk (a.length + 1) (b.length + 1) (zbf a b 0 0) = zp9 a b := by
  refine zex fun i' k' _ _ => ?_
  simp only [zbf, Nat.zero_le, and_true]
  rw [if_pos (by omega)]
theorem zlP (hb : b.length ≤ maxi) (hN : (a.length : Int) + 1 ≤ 9223372036854775807) {i : Nat} (hi : i < a.length) {R : Int → List (List Int) → Option (List (List Int))} : ∀ (k m : Nat), k ≤ b.length → k < m →
    zd5 a b (i : Int) R m ((k : Int) - 1) (zfk (a.length + 1) (b.length + 1) (zbf a b i k)) = R (-1) (zfk (a.length + 1) (b.length + 1) (zbf a b i 0))
  | 0, 0, _, h => by omega
  | 0, m + 1, _, _ => by
    simp only [zd5]
    rw [decide_eq_false (by omega)]; rfl
  | k + 1, 0, _, h => by omega
  | k + 1, m + 1, hk, hm => by
    unfold maxi at hb
    have hx : a[i]? = some a[i] := List.getElem?_eq_getElem hi
    have hy : b[k]? = some b[k] := List.getElem?_eq_getElem (by omega)
    have hst := zhT hx hy
    have e1 : (((k + 1 : Nat) : Int) - 1) = (k : Int) := by omega
    have e2 : w64 ((i : Int) + 1) = ((i + 1 : Nat) : Int) := by rw [zai (by omega) (by omega)]; omega
    have e3 : w64 ((k : Int) + 1) = ((k + 1 : Nat) : Int) := by rw [zai (by omega) (by omega)]; omega
    have e4 : w64 ((k : Int) - 1) = (k : Int) - 1 := zai (by omega) (by omega)
    have s1 : zbf a b i (k + 1) (i + 1) (k + 1) = za5 a b (i + 1) (k + 1) := by simp [zbf]
    have s2 : zbf a b i (k + 1) (i + 1) k = za5 a b (i + 1) k := by simp [zbf]
    have s3 : zbf a b i (k + 1) i (k + 1) = za5 a b i (k + 1) := by simp [zbf]
    have lo := zkk (a := a) (b := b) (i + 1) (k + 1)
    have hi' := zkl (a := a) (b := b) (i + 1) (k + 1)
    have ih := zlP (by unfold maxi; exact hb) hN hi (R := R) k m (by omega) (by omega)
    simp only [zd5, jn, e1, e2, e3, e4, zaf hx, zaf hy, Option.bind_some, decide_eq_true (show (0 : Int) ≤ (k : Int) by omega), cond_true,
      zgS (show i < a.length + 1 by omega), zgS (show i + 1 < a.length + 1 by omega), zgR (show k < b.length + 1 by omega), zgR (show k + 1 < b.length + 1 by omega), s1, s2, s3,
      zki (show k < b.length + 1 by omega), zkj (show i < a.length + 1 by omega)]
    cases he : a[i] == b[k] with
    | true =>
      rw [he, if_pos rfl] at hst
      rw [cond_true, zai (by omega) (by omega), zel hst.symm]
      exact ih
    | false =>
      rw [he, if_neg (by simp)] at hst
      rw [cond_false, zel hst.symm]
      exact ih
theorem zlQ (hb : b.length ≤ maxi) (hN : (a.length : Int) + 1 ≤ 9223372036854775807) (hNb : (b.length : Int) + 1 ≤ 9223372036854775807) {R : Int → List (List Int) → Option (List (List Int))} : ∀ (i m : Nat), i ≤ a.length → i < m →
    zc0 a b R m ((i : Int) - 1) (zfk (a.length + 1) (b.length + 1) (zbf a b i 0)) = R (-1) (zfk (a.length + 1) (b.length + 1) (zbf a b 0 0))
  | 0, 0, _, h => by omega
  | 0, m + 1, _, _ => by
    simp only [zc0]
    rw [decide_eq_false (by omega)]; rfl
  | i + 1, 0, _, h => by omega
  | i + 1, m + 1, hi, hm => by
    have e1 : (((i + 1 : Nat) : Int) - 1) = (i : Int) := by omega
    have e2 : w64 ((b.length : Int) - 1) = (b.length : Int) - 1 := zai (by omega) (by omega)
    have e3 : w64 ((i : Int) - 1) = (i : Int) - 1 := zai (by omega) (by omega)
    simp only [zc0, jn, e1, e2, decide_eq_true (show (0 : Int) ≤ (i : Int) by omega), cond_true]
    rw [zhU, zlP hb hN (by omega) b.length _ (Nat.le_refl _) (by omega), e3]
    exact zlQ hb hN hNb i m (by omega) (by omega)
theorem zlR (hb : b.length ≤ 1048576) {N : Nat} (hN : N ≤ 1048576) {q : List (List Int)} (hq : q.length = N) {R : Int → List (List Int) → Option (List (List Int))} : ∀ (n i m : Nat), i + n = N → n < m →
    zd6 b q R m (i : Int) ((List.range i).map (fun _ => zgo (b.length + 1) fun _ => 0) ++ List.replicate n []) = R (N : Int) (zfk N (b.length + 1) fun _ _ => 0)
  | n, i, 0, _, h => by omega
  | 0, i, m + 1, hi, _ => by
    simp only [zd6]
    rw [hq, decide_eq_false (by omega), show i = N by omega]
    simp [zfk]
  | n + 1, i, m + 1, hi, hm => by
    have e1 : w64 ((b.length : Int) + 1) = ((b.length + 1 : Nat) : Int) := by rw [zai (by omega) (by omega)]; omega
    have e2 : w64 ((i : Int) + 1) = ((i + 1 : Nat) : Int) := by rw [zai (by omega) (by omega)]; omega
    have hl : ((List.range i).map (fun _ => zgo (b.length + 1) fun _ => 0) ++ List.replicate (n + 1) []).length = i + (n + 1) := by simp
    obtain ⟨u, hu⟩ : ∃ u, ((List.range i).map (fun _ => zgo (b.length + 1) fun _ => 0) ++ List.replicate (n + 1) ([] : List Int))[i]? = some u := ⟨_, List.getElem?_eq_getElem (by omega)⟩
    simp only [zd6, hq, e1, e2, decide_eq_true (show (i : Int) < (N : Int) by omega), cond_true, zgO (show b.length + 1 ≤ lim by unfold lim; omega), Option.bind_some, zaf hu]
    rw [zbG (by rw [hl]; omega), Option.bind_some]
    have hset : ((List.range i).map (fun _ => zgo (b.length + 1) fun _ => 0) ++ List.replicate (n + 1) []).set i (List.replicate (b.length + 1) (0 : Int)) = (List.range (i + 1)).map (fun _ => zgo (b.length + 1) fun _ => 0) ++ List.replicate n [] := by
      rw [List.set_append, if_neg (by simp)]
      have hr : zgo (b.length + 1) (fun _ => 0) = List.replicate (b.length + 1) (0 : Int) := by
        unfold zgo
        rw [List.map_const', List.length_range]
      simp [List.range_succ, List.replicate_succ, hr]
    rw [hset]
    exact zlR hb hN hq n (i + 1) m (by omega) (by omega)
theorem zo8 (ha : a.length ≤ 1000) (hb : b.length ≤ 1000) : zi4 a b = some (zp9 a b) := by
  unfold zi4
  have e1 : w64 ((a.length : Int) + 1) = ((a.length + 1 : Nat) : Int) := by rw [zai (by omega) (by omega)]; omega
  have e2 : w64 ((a.length : Int) - 1) = (a.length : Int) - 1 := zai (by omega) (by omega)
  rw [e1, zgO (by unfold lim; omega), Option.bind_some]
  simp only [jn, e2]
  have h1 := zlR (b := b) (by omega) (N := a.length + 1) (by omega) (q := List.replicate (a.length + 1) []) (by simp)
    (R := fun y6 y7 => zc0 a b (fun y27 y29 => some y29) (((a.length : Int) - 1 + 1 - 0).toNat + 1) ((a.length : Int) - 1) y7) (a.length + 1) 0 (((List.replicate (a.length + 1) ([] : List Int)).length - (0 : Int)).toNat + 1) (by omega) (by simp)
  simp only [List.range_zero, List.map_nil, List.nil_append] at h1
  refine h1.trans ?_
  rw [zgT, zlQ (by unfold maxi; omega) (by omega) (by omega) a.length _ (Nat.le_refl _) (by omega), zi7]
theorem zlS (hb : b.length ≤ maxi) (hN : (a.length : Int) + 1 ≤ 9223372036854775807) {i : Nat} (hi : i < a.length) {R : Int → List (List Int) → Option (List (List Int))} : ∀ (k m : Nat), k ≤ b.length → k < m →
    zbO a b (i : Int) R m ((k : Int) - 1) (zfk (a.length + 1) (b.length + 1) (zbf a b i k)) = R (-1) (zfk (a.length + 1) (b.length + 1) (zbf a b i 0))
  | 0, 0, _, h => by omega
  | 0, m + 1, _, _ => by
    simp only [zbO]
    rw [decide_eq_false (by omega)]; rfl
  | k + 1, 0, _, h => by omega
  | k + 1, m + 1, hk, hm => by
    unfold maxi at hb
    have hx : a[i]? = some a[i] := List.getElem?_eq_getElem hi
    have hy : b[k]? = some b[k] := List.getElem?_eq_getElem (by omega)
    have hst := zhT hx hy
    have e1 : (((k + 1 : Nat) : Int) - 1) = (k : Int) := by omega
    have e2 : w64 ((i : Int) + 1) = ((i + 1 : Nat) : Int) := by rw [zai (by omega) (by omega)]; omega
    have e3 : w64 ((k : Int) + 1) = ((k + 1 : Nat) : Int) := by rw [zai (by omega) (by omega)]; omega
    have e4 : w64 ((k : Int) - 1) = (k : Int) - 1 := zai (by omega) (by omega)
    have s1 : zbf a b i (k + 1) (i + 1) (k + 1) = za5 a b (i + 1) (k + 1) := by simp [zbf]
    have s2 : zbf a b i (k + 1) (i + 1) k = za5 a b (i + 1) k := by simp [zbf]
    have s3 : zbf a b i (k + 1) i (k + 1) = za5 a b i (k + 1) := by simp [zbf]
    have lo := zkk (a := a) (b := b) (i + 1) (k + 1)
    have hi' := zkl (a := a) (b := b) (i + 1) (k + 1)
    have ih := zlS (by unfold maxi; exact hb) hN hi (R := R) k m (by omega) (by omega)
    simp only [zbO, jn, e1, e2, e3, e4, zaf hx, zaf hy, Option.bind_some, decide_eq_true (show (0 : Int) ≤ (k : Int) by omega), cond_true,
      zgS (show i < a.length + 1 by omega), zgS (show i + 1 < a.length + 1 by omega), zgR (show k < b.length + 1 by omega), zgR (show k + 1 < b.length + 1 by omega), s1, s2, s3,
      zki (show k < b.length + 1 by omega), zkj (show i < a.length + 1 by omega)]
    cases he : a[i] == b[k] with
    | true =>
      rw [he, if_pos rfl] at hst
      rw [cond_true, zai (by omega) (by omega), zel hst.symm]
      exact ih
    | false =>
      rw [he, if_neg (by simp)] at hst
      rw [cond_false]
      unfold zq7 at hst
      by_cases hc : za5 a b i (k + 1) ≤ za5 a b (i + 1) k
      · rw [if_neg (by omega)] at hst
        rw [decide_eq_true hc, cond_true, zel hst.symm]
        exact ih
      · rw [if_pos (by omega)] at hst
        rw [decide_eq_false hc, cond_false, zel hst.symm]
        exact ih
theorem zlT (hb : b.length ≤ maxi) (hN : (a.length : Int) + 1 ≤ 9223372036854775807) (hNb : (b.length : Int) + 1 ≤ 9223372036854775807) {R : Int → List (List Int) → Option (List (List Int))} : ∀ (i m : Nat), i ≤ a.length → i < m →
    zbh a b R m ((i : Int) - 1) (zfk (a.length + 1) (b.length + 1) (zbf a b i 0)) = R (-1) (zfk (a.length + 1) (b.length + 1) (zbf a b 0 0))
  | 0, 0, _, h => by omega
  | 0, m + 1, _, _ => by
    simp only [zbh]
    rw [decide_eq_false (by omega)]; rfl
  | i + 1, 0, _, h => by omega
  | i + 1, m + 1, hi, hm => by
    have e1 : (((i + 1 : Nat) : Int) - 1) = (i : Int) := by omega
    have e2 : w64 ((b.length : Int) - 1) = (b.length : Int) - 1 := zai (by omega) (by omega)
    have e3 : w64 ((i : Int) - 1) = (i : Int) - 1 := zai (by omega) (by omega)
    simp only [zbh, jn, e1, e2, decide_eq_true (show (0 : Int) ≤ (i : Int) by omega), cond_true]
    rw [zhU, zlS hb hN (by omega) b.length _ (Nat.le_refl _) (by omega), e3]
    exact zlT hb hN hNb i m (by omega) (by omega)
theorem zlU (ha : a.length ≤ 1000) (hb : b.length ≤ 1000) {R : List (List Int) → Int → Option (List (List Int))} : ∀ (n i m : Nat), i + n = a.length + 1 → n < m →
    zbP a b R m ((List.range i).map (fun _ => zgo (b.length + 1) fun _ => 0)) (i : Int) = R (zfk (a.length + 1) (b.length + 1) fun _ _ => 0) ((a.length + 1 : Nat) : Int)
  | n, i, 0, _, h => by omega
  | 0, i, m + 1, hi, _ => by
    simp only [zbP]
    rw [decide_eq_false (by omega), show i = a.length + 1 by omega]
    simp [zfk]
  | n + 1, i, m + 1, hi, hm => by
    have e1 : w64 ((b.length : Int) + 1) = ((b.length + 1 : Nat) : Int) := by rw [zai (by omega) (by omega)]; omega
    have e2 : w64 ((i : Int) + 1) = ((i + 1 : Nat) : Int) := by rw [zai (by omega) (by omega)]; omega
    have hr : zgo (b.length + 1) (fun _ => 0) = List.replicate (b.length + 1) (0 : Int) := by
      unfold zgo
      rw [List.map_const', List.length_range]
    simp only [zbP, e1, e2, decide_eq_true (show (i : Int) ≤ (a.length : Int) by omega), cond_true, zgO (show b.length + 1 ≤ lim by unfold lim; omega), Option.bind_some]
    rw [zhy (by simp [lim]; omega), Option.bind_some]
    have hset : (List.range i).map (fun _ => zgo (b.length + 1) fun _ => 0) ++ [List.replicate (b.length + 1) (0 : Int)] = (List.range (i + 1)).map (fun _ => zgo (b.length + 1) fun _ => 0) := by
      simp [List.range_succ, hr]
    rw [hset]
    exact zlU ha hb n (i + 1) m (by omega) (by omega)
theorem zo9 (ha : a.length ≤ 1000) (hb : b.length ≤ 1000) : zeZ a b = some (zp9 a b) := by
  unfold zeZ
  have e2 : w64 ((a.length : Int) - 1) = (a.length : Int) - 1 := zai (by omega) (by omega)
  simp only [jn, e2]
  have h1 := zlU (a := a) (b := b) ha hb
    (R := fun y3 y6 => zbh a b (fun y28 y30 => some y30) (((a.length : Int) - 1 + 1 - 0).toNat + 1) ((a.length : Int) - 1) y3) (a.length + 1) 0 (((a.length : Int) + 1 - 0).toNat + 1) (by omega) (by omega)
  simp only [List.range_zero, List.map_nil] at h1
  refine h1.trans ?_
  rw [zgT, zlT (by unfold maxi; omega) (by omega) (by omega) a.length _ (Nat.le_refl _) (by omega), zi7]
end
def mtF : List Str → List Str → Nat → List Int
  | [], _, _ => []
  | _ :: xs, [], k => -1 :: mtF xs [] k
  | x :: xs, y :: ys, k => if x == y then (k : Int) :: mtF xs ys (k + 1) else if zgb (x :: xs) ys ≤ zgb xs (y :: ys) then -1 :: mtF xs (y :: ys) k else mtF (x :: xs) ys (k + 1)
termination_by a b _ => a.length + b.length
theorem zhz (b : List Str) (k : Nat) : mtF [] b k = [] := by rw [mtF]
theorem zgI (x : Str) (xs : List Str) (k : Nat) : mtF (x :: xs) [] k = -1 :: mtF xs [] k := by rw [mtF]
theorem zgc (x y : Str) (xs ys : List Str) (k : Nat) : mtF (x :: xs) (y :: ys) k = if x == y then (k : Int) :: mtF xs ys (k + 1) else if zgb (x :: xs) ys ≤ zgb xs (y :: ys) then -1 :: mtF xs (y :: ys) k else mtF (x :: xs) ys (k + 1) := by rw [mtF]
def mt2 (a b : List Str) : List Int := mtF a b 0
theorem zm7 {xs : List Int} {x : Int} (h : xs.length ≤ 1000000) : apM xs [x] = some (xs ++ [x]) := zhy (by simp [lim]; omega)
section
variable {a b : List Str}
theorem zif {i k : Nat} (hi : i ≤ a.length) (hk : k ≤ b.length) : ∃ r, gi (zp9 a b) (i : Int) = some r ∧ gi r (k : Int) = some (za5 a b i k) :=
  ⟨_, zgS (by omega), zgR (by omega)⟩
theorem zb4 {i : Nat} (h : i < a.length) : a.drop i = a[i] :: a.drop (i + 1) := List.drop_eq_getElem_cons h
theorem zi8 (ha : a.length ≤ 1000) (hb : b.length ≤ 1000) : ∀ (m i k : Nat) (out : List Int), (a.length - i) + (b.length - k) < m → i ≤ a.length → k ≤ b.length → out.length = i →
    zde a b (zp9 a b) (fun y5 _ _ => some y5) m out (i : Int) (k : Int) = some (out ++ mtF (a.drop i) (b.drop k) k)
  | 0, i, k, out, hm, _, _, _ => by omega
  | m + 1, i, k, out, hm, hi, hk, ho => by
    have e2 : w64 ((i : Int) + 1) = ((i + 1 : Nat) : Int) := by rw [zai (by omega) (by omega)]; omega
    have e3 : w64 ((k : Int) + 1) = ((k + 1 : Nat) : Int) := by rw [zai (by omega) (by omega)]; omega
    simp only [zde, jn, e2, e3]
    by_cases hil : i < a.length
    case neg =>
      rw [decide_eq_false (by omega), cond_false, show i = a.length by omega, List.drop_length, zhz, List.append_nil]
    have hx : a[i]? = some a[i] := List.getElem?_eq_getElem hil
    rw [decide_eq_true (by omega), cond_true, zb4 hil]
    by_cases hkl : k < b.length
    case neg =>
      have hke : k = b.length := by omega
      rw [decide_eq_false (by omega), cond_false, cond_false, show ((k : Int) == (b.length : Int)) = true by simp [hke], cond_true, cond_true, zm7 (by omega), Option.bind_some,
        zi8 ha hb m (i + 1) k _ (by omega) (by omega) hk (by simp [ho])]
      rw [hke, List.drop_length, zgI]
      simp
    have hy : b[k]? = some b[k] := List.getElem?_eq_getElem hkl
    rw [decide_eq_true (by omega), cond_true, zaf hx, Option.bind_some, zaf hy, Option.bind_some, zb4 hkl, zgc]
    cases he : a[i] == b[k] with
    | true =>
      rw [cond_true, zm7 (by omega), Option.bind_some, zi8 ha hb m (i + 1) (k + 1) _ (by omega) (by omega) (by omega) (by simp [ho])]
      simp
    | false =>
      rw [cond_false, show ((k : Int) == (b.length : Int)) = false by simp; omega, cond_false]
      obtain ⟨r1, h1, h2⟩ := zif (a := a) (b := b) (i := i + 1) (k := k) (by omega) (by omega)
      obtain ⟨r3, h3, h4⟩ := zif (a := a) (b := b) (i := i) (k := k + 1) (by omega) (by omega)
      rw [h1, Option.bind_some, h2, Option.bind_some, h3, Option.bind_some, h4, Option.bind_some]
      have c1 : za5 a b i (k + 1) = zgb (a[i] :: a.drop (i + 1)) (b.drop (k + 1)) := by unfold za5; rw [zb4 hil]
      have c2 : za5 a b (i + 1) k = zgb (a.drop (i + 1)) (b[k] :: b.drop (k + 1)) := by unfold za5; rw [zb4 hkl]
      rw [← c1, ← c2]
      by_cases hc : za5 a b i (k + 1) ≤ za5 a b (i + 1) k
      · rw [decide_eq_true hc, cond_true, zm7 (by omega), Option.bind_some, zi8 ha hb m (i + 1) k _ (by omega) (by omega) hk (by simp [ho]), if_neg (by simp), if_pos hc, zb4 hkl]
        simp
      · rw [decide_eq_false hc, cond_false, zi8 ha hb m i (k + 1) _ (by omega) hi (by omega) ho, if_neg (by simp), if_neg hc, zb4 hil]
theorem zi9 (ha : a.length ≤ 1000) (hb : b.length ≤ 1000) : zfo a b = some (mt2 a b) := by
  unfold zfo
  rw [zo8 ha hb, Option.bind_some]
  simp only [jn]
  have := zi8 ha hb (a.length + b.length + 1) 0 0 [] (by omega) (by omega) (by omega) rfl
  simpa [mt2] using this
theorem zja (ha : a.length ≤ 1000) (hb : b.length ≤ 1000) : ∀ (m i k : Nat) (out : List Int), (a.length - i) + (b.length - k) < m → i ≤ a.length → k ≤ b.length → out.length = i →
    zb7 a b (zp9 a b) (fun y5 _ _ => some y5) m out (k : Int) (i : Int) = some (out ++ mtF (a.drop i) (b.drop k) k)
  | 0, i, k, out, hm, _, _, _ => by omega
  | m + 1, i, k, out, hm, hi, hk, ho => by
    have e2 : w64 ((i : Int) + 1) = ((i + 1 : Nat) : Int) := by rw [zai (by omega) (by omega)]; omega
    have e3 : w64 ((k : Int) + 1) = ((k + 1 : Nat) : Int) := by rw [zai (by omega) (by omega)]; omega
    simp only [zb7, jn, e2, e3]
    by_cases hil : i < a.length
    case neg =>
      rw [decide_eq_false (by omega), cond_false, show i = a.length by omega, List.drop_length, zhz, List.append_nil]
    have hx : a[i]? = some a[i] := List.getElem?_eq_getElem hil
    rw [decide_eq_true (by omega), cond_true, zb4 hil]
    by_cases hkl : k < b.length
    case neg =>
      have hke : k = b.length := by omega
      rw [decide_eq_false (by omega), cond_false, cond_false, decide_eq_true (by omega), cond_true, cond_true, zm7 (by omega), Option.bind_some,
        zja ha hb m (i + 1) k _ (by omega) (by omega) hk (by simp [ho])]
      rw [hke, List.drop_length, zgI]
      simp
    have hy : b[k]? = some b[k] := List.getElem?_eq_getElem hkl
    rw [decide_eq_true (by omega), cond_true, zaf hx, Option.bind_some, zaf hy, Option.bind_some, zb4 hkl, zgc]
    cases he : a[i] == b[k] with
    | true =>
      rw [cond_true, zm7 (by omega), Option.bind_some, zja ha hb m (i + 1) (k + 1) _ (by omega) (by omega) (by omega) (by simp [ho])]
      simp
    | false =>
      rw [cond_false, decide_eq_false (by omega), cond_false]
      obtain ⟨r1, h1, h2⟩ := zif (a := a) (b := b) (i := i + 1) (k := k) (by omega) (by omega)
      obtain ⟨r3, h3, h4⟩ := zif (a := a) (b := b) (i := i) (k := k + 1) (by omega) (by omega)
      rw [h1, Option.bind_some, h2, Option.bind_some, h3, Option.bind_some, h4, Option.bind_some]
      have c1 : za5 a b i (k + 1) = zgb (a[i] :: a.drop (i + 1)) (b.drop (k + 1)) := by unfold za5; rw [zb4 hil]
      have c2 : za5 a b (i + 1) k = zgb (a.drop (i + 1)) (b[k] :: b.drop (k + 1)) := by unfold za5; rw [zb4 hkl]
      rw [← c1, ← c2]
      by_cases hc : za5 a b i (k + 1) ≤ za5 a b (i + 1) k
      · rw [decide_eq_true hc, cond_true, zm7 (by omega), Option.bind_some, zja ha hb m (i + 1) k _ (by omega) (by omega) hk (by simp [ho]), if_neg (by simp), if_pos hc, zb4 hkl]
        simp
      · rw [decide_eq_false hc, cond_false, zja ha hb m i (k + 1) _ (by omega) hi (by omega) ho, if_neg (by simp), if_neg hc, zb4 hil]
theorem zjb (ha : a.length ≤ 1000) (hb : b.length ≤ 1000) : zdT a b = some (mt2 a b) := by
  unfold zdT
  rw [zo9 ha hb, Option.bind_some]
  simp only [jn]
  have := zja ha hb (a.length + b.length + 1) 0 0 [] (by omega) (by omega) (by omega) rfl
  simpa [mt2] using this
end
def Asc (hi : Int) : Int → List Int → Prop
  | _, [] => True
  | lo, x :: l => (x = -1 ∧ Asc hi lo l) ∨ (lo ≤ x ∧ x < hi ∧ Asc hi (x + 1) l)
theorem Asc.mono {hi : Int} : ∀ {l : List Int} {lo lo' : Int}, lo' ≤ lo → Asc hi lo l → Asc hi lo' l
  | [], _, _, _, _ => trivial
  | x :: l, lo, lo', h, .inl ⟨h1, h2⟩ => .inl ⟨h1, Asc.mono h h2⟩
  | x :: l, lo, lo', h, .inr ⟨h1, h2, h3⟩ => .inr ⟨by omega, h2, h3⟩
theorem zgd : ∀ (n : Nat) (a b : List Str) (k : Nat), a.length + b.length ≤ n → Asc ((k + b.length : Nat) : Int) (k : Int) (mtF a b k) ∧ (mtF a b k).length = a.length
  | _, [], b, k, _ => by rw [zhz]; exact ⟨trivial, rfl⟩
  | 0, x :: xs, b, k, h => by simp at h
  | n + 1, x :: xs, [], k, h => by
    rw [zgI]
    have := zgd n xs [] k (by simp at h ⊢; omega)
    exact ⟨.inl ⟨rfl, this.1⟩, by simp [this.2]⟩
  | n + 1, x :: xs, y :: ys, k, h => by
    simp only [List.length_cons] at h
    rw [zgc]
    split
    · have := zgd n xs ys (k + 1) (by omega)
      refine ⟨.inr ⟨Int.le_refl _, by simp only [List.length_cons]; omega, ?_⟩, by simp [this.2]⟩
      have h1 := this.1
      rw [show ((k + (y :: ys).length : Nat) : Int) = ((k + 1 + ys.length : Nat) : Int) by simp only [List.length_cons]; omega, show (k : Int) + 1 = ((k + 1 : Nat) : Int) by omega]
      exact h1
    · split
      · have := zgd n xs (y :: ys) k (by simp; omega)
        exact ⟨.inl ⟨rfl, this.1⟩, by simp [this.2]⟩
      · have := zgd n (x :: xs) ys (k + 1) (by simp; omega)
        refine ⟨?_, by simp [this.2]⟩
        have h1 := this.1
        rw [show ((k + (y :: ys).length : Nat) : Int) = ((k + 1 + ys.length : Nat) : Int) by simp only [List.length_cons]; omega]
        exact h1.mono (by omega)
theorem zfD (a b : List Str) : Asc (b.length : Int) 0 (mt2 a b) ∧ (mt2 a b).length = a.length := by
  have := zgd _ a b 0 (Nat.le_refl _)
  simpa [mt2] using this
theorem Asc.snoc {hi : Int} (h0 : 0 ≤ hi) : ∀ {l : List Int} {lo : Int}, lo ≤ hi → Asc hi lo l → Asc (hi + 1) lo (l ++ [hi])
  | [], lo, h, _ => .inr ⟨h, by omega, trivial⟩
  | x :: l, lo, h, .inl ⟨h1, h2⟩ => .inl ⟨h1, Asc.snoc h0 h h2⟩
  | x :: l, lo, h, .inr ⟨h1, h2, h3⟩ => .inr ⟨h1, by omega, Asc.snoc h0 (by omega) h3⟩
end Go.Vm
namespace Go.Sx
open Go
theorem zdm {R α : Type} {xs : List α} {p : α → Bool} {r : α → Option R} {Z : Option R} {f : Nat → Int → Option R}
    (hs : ∀ m (i : Nat) x, xs[i]? = some x → f (m + 1) (i : Int) = bif p x then r x else f m ((i + 1 : Nat) : Int)) (he : ∀ m, f (m + 1) (xs.length : Int) = Z) {m : Nat} (hm : xs.length < m) :
    f m 0 = match xs.find? p with | some x => r x | none => Z := by
  have key : ∀ k i m, i + k = xs.length → k < m → f m (i : Int) = match (xs.drop i).find? p with | some x => r x | none => Z := by
    intro k
    induction k with
    | zero =>
      intro i m hi hm
      obtain ⟨m, rfl⟩ : ∃ q, m = q + 1 := ⟨m - 1, by omega⟩
      rw [show i = xs.length by omega, he, List.drop_length]
      rfl
    | succ k ih =>
      intro i m hi hm
      obtain ⟨m, rfl⟩ : ∃ q, m = q + 1 := ⟨m - 1, by omega⟩
      have hlt : i < xs.length := by omega
      rw [hs m i xs[i] (List.getElem?_eq_getElem hlt), List.drop_eq_getElem_cons hlt, List.find?_cons]
      cases p xs[i] with
      | true => rfl
      | false => exact ih (i + 1) m (by omega) (by omega)
  have := key xs.length 0 m (by omega) hm
  simpa using this
end Go.Sx
namespace Go.Vm
open Go Go.Sx
set_option linter.unusedSimpArgs false
set_option linter.unusedVariables false
def PB (n : Nat) (out : List Part) : Prop := out.length ≤ n ∧ ∀ q ∈ out, q.Lines.length ≤ 1000 * n
theorem PB.mono {n m : Nat} {out : List Part} (h : PB n out) (hm : n ≤ m) : PB m out := ⟨Nat.le_trans h.1 hm, fun q hq => Nat.le_trans (h.2 q hq) (Nat.mul_le_mul_left _ hm)⟩
end Go.Vm
namespace Go.Sx
open Go
end Go.Sx
namespace Go.Vm
open Go Go.Sx
set_option linter.unusedSimpArgs false
set_option linter.unusedVariables false
section
variable {o a b : List Str} {Q : Part → Prop}
end
section
variable {xs : List Memo} {o a b : List Str}
theorem zcF {s : List Str} (h : s.length ≤ 1000000) (hl : ∀ x ∈ s, zdz x = true) : Bk.fit s := ⟨by unfold maxi; omega, fun x hx => by have := zie (hl x hx); show x.length ≤ maxi; unfold maxi; omega⟩
end
def LB (n : Nat) (t : List Str) : Prop := t.length ≤ n ∧ ∀ s ∈ t, s.length ≤ 100
theorem LB.fit {n : Nat} {t : List Str} (h : LB n t) (hn : n ≤ 1000000) : Bk.fit t := ⟨by have := h.1; unfold maxi; omega, fun s hs => by have := h.2 s hs; show s.length ≤ maxi; unfold maxi; omega⟩
theorem LB.mono {n m : Nat} {t : List Str} (h : LB n t) (hm : n ≤ m) : LB m t := ⟨Nat.le_trans h.1 hm, h.2⟩
theorem zhh {α : Type} {f : α → Nat} {c : Nat} : ∀ {t : List α}, (∀ s ∈ t, f s ≤ c) → sumB f t ≤ c * t.length
  | [], _ => by simp [sumB]
  | x :: t, h => by
    have h1 := h x (by simp)
    have h2 := zhh (t := t) (fun s hs => h s (by simp [hs]))
    simp only [sumB, List.length_cons, Nat.mul_add, Nat.mul_one]
    omega
theorem LB.bulk {n : Nat} {t : List Str} (h : LB n t) : Bk.bulk t ≤ 101 * n := by
  have h1 : sumB Bk.bulk t ≤ 100 * t.length := zhh (f := fun s : Str => s.length) (c := 100) (fun s hs => h.2 s hs)
  have := h.1
  rw [ztB]
  omega
section
variable {r : l30Rd} {p : Int}
end
open Go Go.Sx Go.Proofs
theorem za6 (a b : Str) : Op.bytesLess a b = decide (a < b) := bytesLess_eq a b
theorem zlW (a b : Str) : (decide (a ≤ b) || decide (b ≤ a)) = true := by
  rcases List.le_total a b with h | h <;> simp [h]
theorem zlX (a b c : Str) : decide (a ≤ b) = true → decide (b ≤ c) = true → decide (a ≤ c) = true := by
  simp only [decide_eq_true_eq]
  exact List.le_trans
theorem zan (a : Str) : ¬ a < a := List.lt_irrefl a
theorem zbb {a b c : Str} : a < b → b < c → a < c := List.lt_trans
theorem zbX {a b : Str} (h : a ≤ b) (hn : a ≠ b) : a < b := by
  rcases Decidable.em (a < b) with h1 | h1
  · exact h1
  · exact absurd (List.le_antisymm h (List.not_lt.1 h1)) hn
theorem zii {a b : Str} : ¬ a < b ↔ b ≤ a := List.not_lt
def Asd (xs : List Str) : Prop := xs.Pairwise (· < ·)
theorem Asd.ext : ∀ {xs ys : List Str}, Asd xs → Asd ys → (∀ a, a ∈ xs ↔ a ∈ ys) → xs = ys
  | [], [], _, _, _ => rfl
  | [], y :: ys, _, _, h => by have := (h y).2 (by simp); simp at this
  | x :: xs, [], _, _, h => by have := (h x).1 (by simp); simp at this
  | x :: xs, y :: ys, hx, hy, h => by
    have hx' := List.pairwise_cons.1 hx
    have hy' := List.pairwise_cons.1 hy
    have e : x = y := by
      rcases List.mem_cons.1 ((h x).1 (by simp)) with e | hm
      · exact e
      · rcases List.mem_cons.1 ((h y).2 (by simp)) with e | hm2
        · exact e.symm
        · exact absurd (zbb (hy'.1 x hm) (hx'.1 y hm2)) (zan y)
    subst e
    have ht : ∀ a, a ∈ xs ↔ a ∈ ys := fun a => by
      constructor
      · intro ha
        rcases List.mem_cons.1 ((h a).1 (List.mem_cons_of_mem _ ha)) with e | hm
        · exact absurd (by rw [e] at ha; exact hx'.1 x ha) (zan x)
        · exact hm
      · intro ha
        rcases List.mem_cons.1 ((h a).2 (List.mem_cons_of_mem _ ha)) with e | hm
        · exact absurd (by rw [e] at ha; exact hy'.1 x ha) (zan x)
        · exact hm
    rw [Asd.ext hx'.2 hy'.2 ht]
theorem znd (l : List Str) : (zcS l).Pairwise (· ≤ ·) := by
  have := List.pairwise_mergeSort (le := fun x y : Str => decide (x ≤ y)) zlX zlW l
  exact this.imp (by simp)
theorem zjF {l : List Str} {a : Str} : a ∈ zcS l ↔ a ∈ l := List.mem_mergeSort
theorem zjd : ∀ (l : List Str) (p : Option Str) (a : Str), a ∈ zc6 p l ∨ some a = p ↔ a ∈ l ∨ some a = p
  | [], p, a => by simp [zc6]
  | x :: l, p, a => by
    have ih := zjd l (some x) a
    unfold zc6
    by_cases hp : p = some x
    · rw [if_pos hp, hp]
      rw [ih]
      simp only [List.mem_cons, Option.some.injEq]
      constructor
      · rintro (h | h)
        · exact .inl (.inr h)
        · exact .inr h
      · rintro ((h | h) | h)
        · exact .inr h
        · exact .inl h
        · exact .inr h
    · rw [if_neg hp]
      simp only [List.mem_cons, Option.some.injEq] at ih ⊢
      constructor
      · rintro ((h | h) | h)
        · exact .inl (.inl h)
        · rcases ih.1 (.inl h) with h2 | h2
          · exact .inl (.inr h2)
          · exact .inl (.inl h2)
        · exact .inr h
      · rintro ((h | h) | h)
        · exact .inl (.inl h)
        · rcases ih.2 (.inl h) with h2 | h2
          · exact .inl (.inr h2)
          · exact .inl (.inl h2)
        · exact .inr h
theorem ziE {l : List Str} {a : Str} : a ∈ zlI l ↔ a ∈ l := by
  have := zjd l none a
  simpa [zlI] using this
theorem zgp : ∀ (l : List Str) (p : Option Str), l.Pairwise (· ≤ ·) → (∀ q, p = some q → ∀ a ∈ l, q ≤ a) → Asd (zc6 p l) ∧ ∀ q, p = some q → ∀ a ∈ zc6 p l, q < a
  | [], p, _, _ => by simp [zc6, Asd]
  | x :: l, p, h, hp => by
    have h' := List.pairwise_cons.1 h
    obtain ⟨i1, i2⟩ := zgp l (some x) h'.2 (fun q hq a ha => by cases hq; exact h'.1 a ha)
    unfold zc6
    by_cases hpx : p = some x
    · rw [if_pos hpx]
      exact ⟨i1, fun q hq a ha => by rw [hpx] at hq; exact i2 q hq a ha⟩
    · rw [if_neg hpx]
      refine ⟨List.pairwise_cons.2 ⟨fun a ha => i2 x rfl a ha, i1⟩, fun q hq a ha => ?_⟩
      have hqx : q < x := zbX (hp q hq x (by simp)) (fun e => hpx (by rw [hq, e]))
      rcases List.mem_cons.1 ha with e | e
      · rw [e]; exact hqx
      · exact zbb hqx (i2 x rfl a e)
def zgQ (xs : List Str) (s : Str) : List Str := zlI (zcS (xs ++ [s]))
theorem zdx (xs : List Str) (s : Str) : Asd (zgQ xs s) := (zgp _ none (znd _) (fun q hq => by cases hq)).1
theorem insS_mem {xs : List Str} {s a : Str} : a ∈ zgQ xs s ↔ a ∈ xs ∨ a = s := by
  unfold zgQ
  rw [ziE, zjF, List.mem_append, List.mem_singleton]
theorem zgU : ∀ (zs : List Str) (p : Option Str), (zc6 p zs).length ≤ zs.length
  | [], p => by simp [zc6]
  | x :: l, p => by
    have := zgU l (some x)
    unfold zc6
    split <;> simp <;> omega
theorem zdW (xs : List Str) (s : Str) : (zgQ xs s).length ≤ xs.length + 1 := by
  have := zgU (zcS (xs ++ [s])) none
  unfold zgQ zlI
  have h2 : (zcS (xs ++ [s])).length = (xs ++ [s]).length := List.length_mergeSort _
  rw [h2] at this
  simpa using this
def zic (c : UInt8) : Bool := (decide (97 ≤ (c.toNat : Int)) && decide ((c.toNat : Int) ≤ 122)) || (decide (48 ≤ (c.toNat : Int)) && decide ((c.toNat : Int) ≤ 57))
def zaM (s : Str) : Bool := (decide (1 ≤ (s.length : Int)) && decide ((s.length : Int) ≤ 6)) && s.all zic
theorem zjO (c : UInt8) : zeg c = some (zic c) := by
  unfold zeg zic
  simp only [jn]
  cases decide (97 ≤ (c.toNat : Int)) <;> cases decide ((c.toNat : Int) ≤ 122) <;> cases decide (48 ≤ (c.toNat : Int)) <;> cases decide ((c.toNat : Int) ≤ 57) <;> rfl
theorem zfU (a b c : Int) : zeF a b c = some (decide (b ≤ a) && decide (a ≤ c)) := by
  unfold zeF
  simp only [jn]
  cases decide (b ≤ a) <;> rfl
theorem zgV (a b c : Int) : zeP a b c = some (decide (b ≤ a) && decide (a ≤ c)) := by
  unfold zeP
  simp only [jn]
  cases decide (b ≤ a) <;> rfl
theorem zcG {s : Str} (h : s.length ≤ maxi) : zb0 s = some (zaM s) := by
  unfold zb0 zaM
  simp only [jn, zak, zfU, Option.bind_some]
  cases (decide (1 ≤ (s.length : Int)) && decide ((s.length : Int) ≤ 6))
  case false => rfl
  simp only [Bool.not_true, cond_false, Bool.true_and]
  rw [zbg (α := UInt8) (xs := s) (p := zic) (r0 := some false) (Z := some true) (f := fun m i => zck s (fun _ _ => some true) m false i) (fun m i x hx => by
    simp only [zck, jn, zal hx, ziB hx, cond_true, Option.bind_some, zac (zau hx) h, zjO]
    cases zic x <;> rfl) (fun m => by simp only [zck, zad, cond_false]) (by omega)]
  cases s.all zic <;> rfl
theorem zrx (a b : Int) : decide (a < b) = !decide (b ≤ a) := by
  by_cases h : a < b
  · rw [decide_eq_true h, decide_eq_false (by omega)]; rfl
  · rw [decide_eq_false h, decide_eq_true (by omega)]; rfl
theorem zc4 {s : Str} (h : s.length ≤ maxi) : zcH s = some (zaM s) := by
  unfold zcH zaM
  simp only [jn, zak, zgV, Option.bind_some]
  rw [zbg (α := UInt8) (xs := s) (p := zic) (r0 := some false) (Z := some (decide (1 ≤ (s.length : Int)) && decide ((s.length : Int) ≤ 6))) (f := fun m i => zcg s (fun _ _ => some (decide (1 ≤ (s.length : Int)) && decide ((s.length : Int) ≤ 6))) m false i) (fun m i x hx => by
    simp only [zcg, jn, zal hx, ziB hx, cond_true, Option.bind_some, zac (zau hx) h, zrx, zic]
    cases decide (97 ≤ (x.toNat : Int)) <;> cases decide ((x.toNat : Int) ≤ 122) <;> cases decide (48 ≤ (x.toNat : Int)) <;> cases decide ((x.toNat : Int) ≤ 57) <;> rfl) (fun m => by simp only [zcg, zad, cond_false]) (by omega)]
  cases s.all zic <;> cases (decide (1 ≤ (s.length : Int)) && decide ((s.length : Int) ≤ 6)) <;> rfl
theorem zoi {xs : List Str} {s : Str} (h : xs.length ≤ 1000000) : zf9 xs s = some (zgQ xs s) := by
  have h2 : (zcS (xs ++ [s])).length = (xs ++ [s]).length := List.length_mergeSort _
  have h3 : (xs ++ [s]).length = xs.length + 1 := by simp
  unfold zf9 zay za2
  rw [apN (show xs.length ≤ 1048576 by omega), Option.bind_some, ap1 (show xs.length ≤ 1048576 by omega), Option.bind_some, if_pos (by omega), Option.bind_some, if_pos (by omega)]
  rfl
def ahd (s : Str) : List Str → Nat
  | [] => 0
  | x :: xs => bif Op.bytesLess x s then ahd s xs + 1 else 0
theorem zoA (s : Str) : ∀ xs, ahd s xs ≤ xs.length
  | [] => Nat.le_refl _
  | x :: xs => by
    have := zoA s xs
    unfold ahd
    cases Op.bytesLess x s
    · simp
    · simp only [cond_true, List.length_cons]; omega
theorem zkn (s : Str) : ∀ (xs : List Str) x, x ∈ xs.take (ahd s xs) → x < s
  | [], x, h => by simp at h
  | y :: xs, x, h => by
    unfold ahd at h
    cases hy : Op.bytesLess y s with
    | false => rw [hy] at h; simp at h
    | true =>
      rw [hy, cond_true, List.take_succ_cons] at h
      rcases List.mem_cons.1 h with e | e
      · rw [e]; rw [za6] at hy; simpa using hy
      · exact zkn s xs x e
theorem zoB (s : Str) : ∀ (xs : List Str) x, xs[ahd s xs]? = some x → s ≤ x
  | [], x, h => by simp at h
  | y :: xs, x, h => by
    unfold ahd at h
    cases hy : Op.bytesLess y s with
    | false =>
      rw [hy, cond_false] at h
      have e : y = x := by simpa using h
      rw [← e]
      rw [za6] at hy
      exact zii.1 (by simpa using hy)
    | true =>
      rw [hy, cond_true] at h
      exact zoB s xs x (by simpa using h)
theorem zry {xs : List Str} {s : Str} (hl : xs.length ≤ 1000000) {K : Int → Option (List Str)} : ∀ (n i m : Nat), i + n = xs.length → n < m → (∀ j, j < i → ∃ x, xs[j]? = some x ∧ x < s) → zcW xs s K m (i : Int) = K ((i + ahd s (xs.drop i) : Nat) : Int)
  | n, i, 0, _, hm, _ => by omega
  | 0, i, m + 1, hi, _, _ => by
    simp only [zcW, jn]
    rw [decide_eq_false (by omega), cond_false, cond_false, List.drop_eq_nil_of_le (by omega)]
    rfl
  | n + 1, i, m + 1, hi, hm, hall => by
    have hlt : i < xs.length := by omega
    have hx : xs[i]? = some xs[i] := List.getElem?_eq_getElem hlt
    simp only [zcW, jn]
    rw [decide_eq_true (by omega), cond_true, zaf hx, Option.bind_some, List.drop_eq_getElem_cons hlt]
    unfold ahd
    cases hb : Op.bytesLess xs[i] s with
    | false => rw [cond_false, cond_false]; rfl
    | true =>
      rw [cond_true, cond_true, zac hlt (by unfold maxi; omega)]
      rw [zry hl n (i + 1) m (by omega) (by omega) (fun j hj => by
        rcases Nat.lt_or_ge j i with h1 | h1
        · exact hall j h1
        · have : j = i := by omega
          subst this
          exact ⟨_, hx, by rw [za6] at hb; simpa using hb⟩)]
      congr 2
      omega
theorem zi0 {xs : List Str} {s : Str} (hl : xs.length ≤ 1000000) (ha : Asd xs) : zdu xs s = some (zgQ xs s) := by
  unfold zdu
  simp only [jn]
  have h1 := zry (s := s) hl (K := fun y1 => bif decide (y1 < (xs.length : Int)) then (gi xs y1).bind fun u52 => bif u52 == s then some xs else (slM xs 0 y1).bind fun q19 => (apM [] q19).bind fun q24 => (apM q24 [s]).bind fun q31 => (slM xs y1 (xs.length : Int)).bind fun q36 => (apM q31 q36).bind fun q41 => some q41
      else bif false then some xs else (slM xs 0 y1).bind fun q19 => (apM [] q19).bind fun q24 => (apM q24 [s]).bind fun q31 => (slM xs y1 (xs.length : Int)).bind fun q36 => (apM q31 q36).bind fun q41 => some q41) xs.length 0 (xs.length + 1) (by omega) (by omega) (fun j hj => by omega)
  have hk := zoA s xs
  simp only [Nat.zero_add, List.drop_zero] at h1
  refine h1.trans ?_
  -- the list with s in its place
  have hput : (slM xs 0 ((ahd s xs : Nat) : Int)).bind (fun q19 => (apM [] q19).bind fun q24 => (apM q24 [s]).bind fun q31 => (slM xs ((ahd s xs : Nat) : Int) (xs.length : Int)).bind fun q36 => (apM q31 q36).bind fun q41 => some q41) = some (xs.take (ahd s xs) ++ [s] ++ xs.drop (ahd s xs)) := by
    have hlt : (xs.take (ahd s xs)).length ≤ xs.length := by simp; omega
    rw [ziw hk, Option.bind_some, apN (by omega), Option.bind_some, ap1 (by omega), Option.bind_some, zmY hk, Option.bind_some, zhy (by simp [lim]; omega), Option.bind_some]
  have hmem : ∀ a, a ∈ xs.take (ahd s xs) ++ [s] ++ xs.drop (ahd s xs) ↔ a ∈ xs ∨ a = s := fun a => by
    have : a ∈ xs ↔ a ∈ xs.take (ahd s xs) ∨ a ∈ xs.drop (ahd s xs) := by rw [← List.mem_append, List.take_append_drop]
    rw [this]
    simp only [List.mem_append, List.mem_singleton]
    constructor
    · rintro ((h | h) | h)
      · exact .inl (.inl h)
      · exact .inr h
      · exact .inl (.inr h)
    · rintro ((h | h) | h)
      · exact .inl (.inl h)
      · exact .inr h
      · exact .inl (.inr h)
  have hfin : (∀ x ∈ xs.drop (ahd s xs), s < x) → some (xs.take (ahd s xs) ++ [s] ++ xs.drop (ahd s xs)) = some (zgQ xs s) := by
    intro hd
    congr 1
    refine Asd.ext ?_ (zdx _ _) (fun a => by rw [hmem, insS_mem])
    have ha' := ha
    rw [← List.take_append_drop (ahd s xs) xs] at ha'
    obtain ⟨p1, p2, p3⟩ := List.pairwise_append.1 ha'
    refine List.pairwise_append.2 ⟨List.pairwise_append.2 ⟨p1, List.pairwise_singleton _ _, fun a h b hb => ?_⟩, p2, fun a h b hb => ?_⟩
    · rw [List.mem_singleton] at hb; rw [hb]; exact zkn s xs a h
    · rcases List.mem_append.1 h with h2 | h2
      · exact p3 a h2 b hb
      · rw [List.mem_singleton] at h2; rw [h2]; exact hd b hb
  by_cases hlt : ahd s xs < xs.length
  · have hx : xs[ahd s xs]? = some xs[ahd s xs] := List.getElem?_eq_getElem hlt
    have hge := zoB s xs _ hx
    rw [decide_eq_true (by omega), cond_true, zaf hx, Option.bind_some]
    cases he : xs[ahd s xs] == s with
    | true =>
      have e : xs[ahd s xs] = s := by simpa using he
      rw [cond_true]
      congr 1
      exact Asd.ext ha (zdx _ _) (fun a => by
        rw [insS_mem]
        constructor
        · exact .inl
        · rintro (h | h)
          · exact h
          · rw [h, ← e]; exact List.getElem_mem hlt)
    | false =>
      have e : s ≠ xs[ahd s xs] := fun e => by rw [← e] at he; simp at he
      rw [cond_false, hput]
      refine hfin (fun x hx2 => ?_)
      rw [List.drop_eq_getElem_cons hlt] at hx2
      have hs1 : s < xs[ahd s xs] := zbX hge e
      rcases List.mem_cons.1 hx2 with h2 | h2
      · rw [h2]; exact hs1
      · have hp : Asd (xs.drop (ahd s xs)) := List.Pairwise.sublist (List.drop_sublist _ _) ha
        rw [List.drop_eq_getElem_cons hlt] at hp
        exact zbb hs1 ((List.pairwise_cons.1 hp).1 x h2)
  · rw [decide_eq_false (by omega), cond_false, cond_false, hput]
    refine hfin (fun x hx2 => ?_)
    rw [List.drop_eq_nil_of_le (by omega)] at hx2
    simp at hx2
def zsp (xs : List Str) (i : Nat) : Bool := zaM (xs.getD i []) && (bif decide (0 < (i : Int)) then Op.bytesLess (xs.getD (i - 1) []) (xs.getD i []) else true)
def zlC (xs : List Str) : Bool := zf2 (zsp xs) 0 xs.length
theorem zlv {xs : List Str} {i : Nat} {x : Str} (h : xs[i]? = some x) : xs.getD i [] = x := by simp [List.getD, h]
theorem zsv (a b : Str) : (Op.bytesLess a b || a == b) = !Op.bytesLess b a := by
  rw [za6, za6]
  by_cases h : b < a
  · have h1 : ¬ a < b := fun h2 => zan a (zbb h2 h)
    have h2 : ¬ a = b := fun e => by rw [e] at h; exact zan b h
    simp [h, h1, h2]
  · by_cases e : a = b
    · simp [h, e]
    · have := zbX (zii.1 h) e
      simp [h, this]
theorem zpp {xs : List Str} {i : Nat} {x : Str} (h : xs[i]? = some x) (hl : xs.length ≤ maxi) (h0 : (0 : Int) < (i : Int)) : ∃ y, gi xs (w64 ((i : Int) - 1)) = some y ∧ xs.getD (i - 1) [] = y := by
  have hi := zau h
  have e : w64 ((i : Int) - 1) = ((i - 1 : Nat) : Int) := by rw [zai (by omega) (by unfold maxi at hl; omega)]; omega
  have hx : xs[i - 1]? = some xs[i - 1] := List.getElem?_eq_getElem (by omega)
  exact ⟨_, by rw [e]; exact zaf hx, zlv hx⟩
theorem zoj {xs : List Str} (h : Bk.fit xs) : zf6 xs = some (zlC xs) := by
  unfold zf6 zlC
  simp only [jn, zak]
  rw [zbt (n := xs.length) (g := zsp xs) (r0 := some false) (Z := some true) (f := fun m i => zc9 xs (fun _ _ => some true) m false i) (fun m i hi => by
    have hx : xs[i]? = some xs[i] := List.getElem?_eq_getElem hi
    have fx : xs[i].length ≤ maxi := zfY h hx
    simp only [zc9, jn, zal hx, zaf hx, cond_true, Option.bind_some, zac hi (zb6 h), zcG fx]
    unfold zsp
    rw [zlv hx]
    cases zaM xs[i]
    · rfl
    · by_cases h0 : (0 : Int) < (i : Int)
      · obtain ⟨y, hy, ey⟩ := zpp hx (zb6 h) h0
        rw [hy, ey, decide_eq_true h0]
        simp only [Option.bind_some]
        cases Op.bytesLess y xs[i] <;> rfl
      · rw [decide_eq_false h0]; rfl) (fun m => by simp only [zc9, zad, cond_false]) _ (by omega)]
  cases zf2 (zsp xs) 0 xs.length <;> rfl
def zt0 (v : Review) : Bool := zaM v.Branch && (zaM v.Into && (zaM v.By && (v.Branch != v.Into && decide ((v.Yes.length : Int) ≤ 5))))
def znN (v : Review) : Bool := zlC v.Yes && zt0 v
theorem znk {v : Review} (h : Bk.fit v) : zfB v = some (znN v) := by
  obtain ⟨h1, h2, h3, h4⟩ := h
  unfold zfB znN zt0
  simp only [jn, zcG h1, zcG h2, zcG h3, zoj h4, Option.bind_some]
  cases zaM v.Branch <;> cases zaM v.Into <;> cases zaM v.By <;> cases (v.Branch != v.Into) <;> cases decide ((v.Yes.length : Int) ≤ 5) <;> cases zlC v.Yes <;> rfl
theorem zqN {v : Review} (h : Bk.fit v) : zh8 v = some (znN v) := by
  obtain ⟨h1, h2, h3, h4⟩ := h
  unfold zh8 znN zlC
  simp only [jn, zak]
  rw [zbt (n := v.Yes.length) (g := zsp v.Yes) (r0 := some false) (Z := some (zt0 v)) (f := fun m i => zej v _ m false i) (fun m i hi => by
    have hx : v.Yes[i]? = some v.Yes[i] := List.getElem?_eq_getElem hi
    have fx : v.Yes[i].length ≤ maxi := zfY h4 hx
    simp only [zej, jn, zal hx, zaf hx, cond_true, Option.bind_some, zac hi (zb6 h4), zc4 fx]
    unfold zsp
    rw [zlv hx]
    cases zaM v.Yes[i]
    · rfl
    · by_cases h0 : (0 : Int) < (i : Int)
      · obtain ⟨y, hy, ey⟩ := zpp hx (zb6 h4) h0
        rw [hy, ey, decide_eq_true h0]
        simp only [Option.bind_some, zsv]
        cases Op.bytesLess y v.Yes[i] <;> rfl
      · rw [decide_eq_false h0]; rfl) (fun m => by
    simp only [zej, zad, cond_false, zc4 h1, zc4 h2, zc4 h3, Option.bind_some, zt0]
    cases zaM v.Branch <;> cases zaM v.Into <;> cases zaM v.By <;> cases (v.Branch != v.Into) <;> rfl) _ (by omega)]
  cases zf2 (zsp v.Yes) 0 v.Yes.length <;> rfl
theorem zk3 {v : Review} (h : znN v = true) : v.Yes.length ≤ 5 := by
  unfold znN zt0 at h
  simp only [Bool.and_eq_true, decide_eq_true_eq] at h
  omega
def RB (n : Nat) (v : Review) : Prop := v.Branch.length ≤ 4 ∧ v.Into.length ≤ 4 ∧ v.By.length ≤ 4 ∧ LB n v.Yes
theorem RB.fit {n : Nat} {v : Review} (h : RB n v) (hn : n ≤ 1000) : Bk.fit v :=
  ⟨by have := h.1; show v.Branch.length ≤ maxi; unfold maxi; omega, by have := h.2.1; show v.Into.length ≤ maxi; unfold maxi; omega, by have := h.2.2.1; show v.By.length ≤ maxi; unfold maxi; omega, h.2.2.2.fit (by omega)⟩
theorem zpq (v : Review) : zhg.cn v = v.Yes.length := by
  have := zo5 v.Yes
  show 0 + (0 + (0 + zfb.list.cn v.Yes)) = _
  omega
def curS (c : UInt8) : Str → Str → List Str
  | w, [] => [w]
  | w, x :: r => bif x == c then w :: curS c [] r else curS c (w ++ [x]) r
def zek (c : UInt8) : Nat → Str → Str → List Str
  | _, w, [] => [w]
  | 0, w, x :: r => [w ++ x :: r]
  | n + 1, w, x :: r => bif x == c then w :: zek c n [] r else zek c (n + 1) (w ++ [x]) r
theorem zko (c : UInt8) : ∀ (r w : Str), 1 ≤ (curS c w r).length
  | [], w => by simp [curS]
  | x :: r, w => by
    unfold curS
    cases x == c
    · exact zko c r _
    · simp
theorem zem (c : UInt8) (w r : Str) : zek c 0 w r = [w ++ r] := by
  cases r <;> simp [zek]
theorem zdJ (c : UInt8) : ∀ (r : Str) (n : Nat) (w : Str), (curS c w r).length ≤ n + 1 → zek c n w r = curS c w r
  | [], n, w, h => by cases n <;> simp [zek, curS]
  | x :: r, 0, w, h => by
    unfold curS at h ⊢
    cases hx : x == c with
    | true =>
      rw [hx, cond_true] at h
      have := zko c r []
      rw [List.length_cons] at h
      omega
    | false =>
      rw [hx, cond_false] at h
      have ih := zdJ c r 0 (w ++ [x]) h
      rw [cond_false, ← ih, zem, zem]
      simp
  | x :: r, n + 1, w, h => by
    unfold curS at h ⊢
    unfold zek
    cases hx : x == c with
    | true =>
      rw [hx, cond_true, List.length_cons] at h
      rw [cond_true, cond_true, zdJ c r n [] (by omega)]
    | false =>
      rw [hx, cond_false] at h
      rw [cond_false, cond_false, zdJ c r (n + 1) _ h]
theorem zfs (c : UInt8) : ∀ (r : Str) (n : Nat) (w : Str), n + 1 ≤ (curS c w r).length → (zek c n w r).length = n + 1
  | [], n, w, h => by
    simp [curS] at h
    subst h
    simp [zek]
  | x :: r, 0, w, h => by simp [zek]
  | x :: r, n + 1, w, h => by
    unfold curS at h
    unfold zek
    cases hx : x == c with
    | true =>
      rw [hx, cond_true, List.length_cons] at h
      rw [cond_true, List.length_cons, zfs c r n [] (by omega)]
    | false =>
      rw [hx, cond_false] at h
      rw [cond_false, zfs c r (n + 1) _ h]
theorem zjP {c : UInt8} {w : Str} (h : c ∉ w) : Lib.index w [c] = -1 := Lib.index_none fun j hj => by
  cases ho : Lib.occAt w [c] j with
  | false => rfl
  | true => exact absurd (List.mem_of_getElem? (Lib.occAt_head rfl ho)) h
theorem zll {c : UInt8} {w r : Str} (h : c ∉ w) : Lib.index (w ++ c :: r) [c] = ((w.length : Nat) : Int) := Lib.index_first (by simp) (by simp [Lib.occAt, List.isPrefixOf]) fun j hj => by
  cases ho : Lib.occAt (w ++ c :: r) [c] j with
  | false => rfl
  | true =>
    have := Lib.occAt_head rfl ho
    rw [List.getElem?_append_left hj] at this
    exact absurd (List.mem_of_getElem? this) h
theorem zgW (c : UInt8) : ∀ (r w : Str), c ∉ w → Lib.split (w ++ r) [c] = curS c w r
  | [], w, h => by
    unfold Lib.split curS
    rw [List.append_nil, Lib.count_miss (zjP h)]
    rfl
  | x :: r, w, h => by
    unfold curS
    cases hx : x == c with
    | true =>
      have e : x = c := by simpa using hx
      subst e
      have hi := zll (r := r) h
      rw [cond_true]
      have ih := zgW x r [] (by simp)
      unfold Lib.split at ih ⊢
      have hd : (w ++ x :: r).drop (w.length + 1) = r := by
        rw [show w ++ x :: r = (w ++ [x]) ++ r by simp, List.drop_left' (by simp)]
      have hc : Lib.count (w ++ x :: r) [x] = Lib.count r [x] + 1 := by
        rw [Lib.count_hit (by simp) hi]
        show 1 + Lib.count ((w ++ x :: r).drop (w.length + 1)) [x] = _
        rw [hd]
        omega
      rw [hc]
      unfold Lib.splitK
      rw [if_neg (by rw [hi]; simp), hi]
      have e1 : (w ++ x :: r).take (((w.length : Nat) : Int).toNat + 0) = w := by simp
      have e2 : (w ++ x :: r).drop (((w.length : Nat) : Int).toNat + [x].length) = r := hd
      rw [e1, e2]
      simp only [List.nil_append] at ih
      rw [ih]
    | false =>
      have hne : x ≠ c := by simpa using hx
      rw [cond_false, show w ++ x :: r = (w ++ [x]) ++ r by simp]
      exact zgW c r (w ++ [x]) (by
        rw [List.mem_append, List.mem_singleton]
        rintro (h1 | h1)
        · exact h h1
        · exact hne h1.symm)
theorem znB (c : UInt8) (s : Str) : Lib.split s [c] = curS c [] s := zgW c s [] (by simp)
theorem zlY (u c : UInt8) : (((UInt8.toNat u : Nat) : Int) == ((UInt8.toNat c : Nat) : Int)) = (u == c) := by
  have : ∀ b c : Bool, (b = true ↔ c = true) → b = c := by decide
  apply this
  rw [beq_iff_eq, beq_iff_eq, ← UInt8.toNat_inj]
  omega
theorem zlZ {s : Str} {c : UInt8} {most : Nat} (hs : s.length ≤ 1048576) (hm : most ≤ 1000) : ∀ (n : Nat) (out : List Str) (from_ i m : Nat), i + n = s.length → n < m → from_ ≤ i → out.length ≤ most →
    zef s c (most : Int) (fun y3 y6 y7 => (slM s y6 (s.length : Int)).bind fun q38 => (apM y3 [q38]).bind fun q43 => some q43) m out (from_ : Int) (i : Int) = some (out ++ zek c (most - out.length) ((s.take i).drop from_) (s.drop i))
  | n, out, f, i, 0, _, hm, _, _ => by omega
  | n, out, f, i, m + 1, hi, hn, hf, ho => by
    have hdone : (slM s (f : Int) (s.length : Int)).bind (fun q38 => (apM out [q38]).bind fun q43 => some q43) = some (out ++ [s.drop f]) := by
      rw [zmY (by omega), Option.bind_some, ap1 (by omega), Option.bind_some]
    have hw : (s.take i).drop f ++ s.drop i = s.drop f := by
      rw [← List.drop_append_of_le_length (by simp; omega), List.take_append_drop]
    simp only [zef, jn]
    by_cases h1 : (i : Int) < (s.length : Int)
    case neg =>
      rw [decide_eq_false h1, cond_false, cond_false, hdone]
      have : s.drop i = [] := List.drop_eq_nil_of_le (by omega)
      rw [this] at hw ⊢
      rw [List.append_nil] at hw
      rw [hw]
      cases most - out.length <;> simp [zek]
    rw [decide_eq_true h1, cond_true]
    have hlt : i < s.length := by omega
    have hx : s[i]? = some s[i] := List.getElem?_eq_getElem hlt
    by_cases h2 : (out.length : Int) < (most : Int)
    case neg =>
      rw [decide_eq_false h2, cond_false, hdone]
      have : most - out.length = 0 := by omega
      rw [this, zem, hw]
    obtain ⟨n, rfl⟩ : ∃ k, n = k + 1 := ⟨n - 1, by omega⟩
    obtain ⟨k, hk⟩ : ∃ k, most - out.length = k + 1 := ⟨most - out.length - 1, by omega⟩
    rw [decide_eq_true h2, cond_true, ziB hx, Option.bind_some, zlY, hk, List.drop_eq_getElem_cons hlt]
    unfold zek
    cases hb : s[i] == c with
    | true =>
      rw [cond_true, cond_true, zgn (by omega) (by omega) (by omega), Option.bind_some, ap1 (by omega), Option.bind_some, zac hlt (by unfold maxi; omega), zlZ hs hm n _ (i + 1) (i + 1) m (by omega) (by omega) (by omega) (by simp; omega)]
      have e1 : most - (out ++ [((s.take ((i : Nat) : Int).toNat)).drop ((f : Nat) : Int).toNat]).length = k := by simp; omega
      have e2 : (s.take (i + 1)).drop (i + 1) = [] := List.drop_eq_nil_of_le (by simp; omega)
      rw [e1, e2]
      simp
    | false =>
      rw [cond_false, cond_false, zac hlt (by unfold maxi; omega), zlZ hs hm n _ f (i + 1) m (by omega) (by omega) (by omega) ho, hk]
      have e2 : (s.take (i + 1)).drop f = (s.take i).drop f ++ [s[i]] := by
        rw [List.take_add_one, hx]
        rw [List.drop_append_of_le_length (by simp; omega)]
        rfl
      rw [e2]
theorem znC {s : Str} {c : UInt8} {most : Nat} (hs : s.length ≤ 1048576) (hm : most ≤ 1000) : zgu s c (most : Int) = some (zek c most [] s) := by
  unfold zgu
  simp only [jn]
  have := zlZ (c := c) (most := most) hs hm s.length [] 0 0 (s.length + 1) (by omega) (by omega) (Nat.le_refl _) (by simp)
  simpa using this
def zaY (s : Str) : Bool := decide ((curS 47 [] s).length ≤ 3) && (curS 47 [] s).all zaM
theorem zij (c : UInt8) : ∀ (r w : Str), ∀ p ∈ curS c w r, p.length ≤ w.length + r.length
  | [], w, p, h => by simp [curS] at h; rw [h]; omega
  | x :: r, w, p, h => by
    unfold curS at h
    cases hx : x == c with
    | true =>
      rw [hx, cond_true] at h
      rcases List.mem_cons.1 h with e | e
      · rw [e]; omega
      · have := zij c r [] p e
        simp at this ⊢
        omega
    | false =>
      rw [hx, cond_false] at h
      have := zij c r (w ++ [x]) p h
      simp at this ⊢
      omega
theorem zgk (c : UInt8) : ∀ (r w : Str), (curS c w r).length ≤ r.length + 1
  | [], w => by simp [curS]
  | x :: r, w => by
    unfold curS
    cases x == c
    · have := zgk c r (w ++ [x]); simp at this ⊢; omega
    · have := zgk c r []; simp at this ⊢; omega
theorem zcD {s : Str} (h : s.length ≤ 1048576) : zdO s = some (zaY s) := by
  unfold zdO strings_Split zaY
  rw [if_pos ⟨by omega, by simp⟩, Option.bind_some, znB]
  have hl := zgk 47 s []
  by_cases h3 : (3 : Int) < ((curS 47 [] s).length : Int)
  · rw [decide_eq_true h3, cond_true, decide_eq_false (by omega)]; rfl
  rw [decide_eq_false h3, cond_false, decide_eq_true (by omega), Bool.true_and]
  simp only [jn, zak]
  rw [zbg (α := Str) (xs := curS 47 [] s) (p := zaM) (r0 := some false) (Z := some true) (f := fun m i => zcn (curS 47 [] s) (fun _ _ => some true) m false i) (fun m i x hx => by
    have hf := zij 47 s [] x (List.mem_of_getElem? hx)
    simp only [zcn, zal hx, zaf hx, cond_true, Option.bind_some, zac (zau hx) (show (curS 47 [] s).length ≤ maxi by unfold maxi; omega), zcG (show x.length ≤ maxi by unfold maxi; simp at hf; omega)]
    cases zaM x <;> rfl) (fun m => by simp only [zcn, zad, cond_false]) (by omega)]
  cases (curS 47 [] s).all zaM <;> rfl
theorem zhI (c : UInt8) : ∀ (r : Str) (n : Nat) (w : Str), ∀ p ∈ zek c n w r, p.length ≤ w.length + r.length
  | [], n, w, p, h => by cases n <;> simp [zek] at h <;> rw [h] <;> omega
  | x :: r, 0, w, p, h => by simp [zek] at h; rw [h]; simp
  | x :: r, n + 1, w, p, h => by
    unfold zek at h
    cases hx : x == c with
    | true =>
      rw [hx, cond_true] at h
      rcases List.mem_cons.1 h with e | e
      · rw [e]; omega
      · have := zhI c r n [] p e
        simp at this ⊢
        omega
    | false =>
      rw [hx, cond_false] at h
      have := zhI c r (n + 1) (w ++ [x]) p h
      simp at this ⊢
      omega
theorem zgX {s : Str} (h : s.length ≤ 1048576) : zdh s = some (zaY s) := by
  unfold zdh zaY
  have e47 : (UInt8.ofNatLT 47 (by decide) : UInt8) = 47 := by decide
  have hc := znC (c := UInt8.ofNatLT 47 (by decide)) (most := 3) h (by omega)
  rw [show (3 : Int) = ((3 : Nat) : Int) from rfl, hc, Option.bind_some, e47]
  simp only [jn, zak]
  have hlen : (zek 47 3 [] s).length ≤ maxi := by
    rcases Nat.lt_or_ge (curS 47 [] s).length 4 with h1 | h1
    · rw [zdJ 47 s 3 [] (by omega)]; unfold maxi; omega
    · rw [zfs 47 s 3 [] h1]; unfold maxi; omega
  rw [zbg (α := Str) (xs := zek 47 3 [] s) (p := zaM) (r0 := some false) (Z := some (decide (((zek 47 3 [] s).length : Int) ≤ ((3 : Nat) : Int)))) (f := fun m i => zch (zek 47 3 [] s) (fun _ _ => some (decide (((zek 47 3 [] s).length : Int) ≤ ((3 : Nat) : Int)))) m false i) (fun m i x hx => by
    have hf := zhI 47 s 3 [] x (List.mem_of_getElem? hx)
    simp only [zch, zal hx, zaf hx, cond_true, Option.bind_some, zac (zau hx) hlen, zc4 (show x.length ≤ maxi by unfold maxi; simp at hf; omega)]
    cases zaM x <;> rfl) (fun m => by simp only [zch, zad, cond_false]) (by omega)]
  rcases Nat.lt_or_ge (curS 47 [] s).length 4 with h1 | h1
  · rw [zdJ 47 s 3 [] (by omega), decide_eq_true (show ((curS 47 [] s).length : Int) ≤ ((3 : Nat) : Int) by omega), decide_eq_true (show (curS 47 [] s).length ≤ 3 by omega)]
    cases (curS 47 [] s).all zaM <;> rfl
  · rw [zfs 47 s 3 [] h1, decide_eq_false (show ¬ (curS 47 [] s).length ≤ 3 by omega)]
    cases (zek 47 3 [] s).all zaM <;> rfl
theorem zhJ (a b : Str) : (Op.bytesLess a b || a == b) = !Op.bytesLess b a := by
  rw [za6, za6]
  by_cases h : b < a
  · have h1 : ¬ a < b := fun h2 => zan a (zbb h2 h)
    have h2 : ¬ a = b := fun e => by rw [e] at h; exact zan b h
    simp [h, h1, h2]
  · by_cases e : a = b
    · simp [h, e]
    · have := zbX (zii.1 h) e
      simp [h, this]
def zhP : Owner := ⟨[], []⟩
def zru (xs : List Owner) (i : Nat) : Bool := zaY (xs.getD i zhP).Path && (zaM (xs.getD i zhP).Who && (bif decide (0 < (i : Int)) then Op.bytesLess (xs.getD (i - 1) zhP).Path (xs.getD i zhP).Path else true))
def zc5 (xs : List Owner) : Bool := decide ((xs.length : Int) ≤ 5) && zf2 (zru xs) 0 xs.length
theorem zj1 {xs : List Owner} {i : Nat} {x : Owner} (h : xs[i]? = some x) : xs.getD i zhP = x := by simp [List.getD, h]
theorem znO {xs : List Owner} {i : Nat} {x : Owner} (h : xs[i]? = some x) (hl : xs.length ≤ maxi) (h0 : (0 : Int) < (i : Int)) : ∃ y, gi xs (w64 ((i : Int) - 1)) = some y ∧ xs.getD (i - 1) zhP = y := by
  have hi := zau h
  have e : w64 ((i : Int) - 1) = ((i - 1 : Nat) : Int) := by rw [zai (by omega) (by unfold maxi at hl; omega)]; omega
  have hx : xs[i - 1]? = some xs[i - 1] := List.getElem?_eq_getElem (by omega)
  exact ⟨_, by rw [e]; exact zaf hx, zj1 hx⟩
def OB (xs : List Owner) : Prop := xs.length ≤ 1048576 ∧ ∀ x ∈ xs, x.Path.length ≤ 1048576 ∧ x.Who.length ≤ 1048576
theorem OB.of {xs : List Owner} (h : Bk.bulk xs ≤ 1048576) : OB xs := ⟨zcT h, fun x hx => by
  have h1 : Bk.bulk x ≤ 1048576 := zhN h hx
  have h2 : Bk.bulk x = x.Path.length + x.Who.length := rfl
  omega⟩
theorem OB.at_ {xs : List Owner} (h : OB xs) {i : Nat} {x : Owner} (hx : xs[i]? = some x) : x.Path.length ≤ 1048576 ∧ x.Who.length ≤ 1048576 := h.2 x (List.mem_of_getElem? hx)
theorem zj2 {xs : List Owner} (h : OB xs) : zeW xs = some (zc5 xs) := by
  unfold zeW zc5
  by_cases h5 : (5 : Int) < (xs.length : Int)
  · rw [decide_eq_true h5, decide_eq_false (by omega)]; rfl
  rw [decide_eq_false h5, decide_eq_true (by omega), cond_false, Bool.true_and]
  simp only [jn, zak]
  rw [zbt (n := xs.length) (g := zru xs) (r0 := some false) (Z := some true) (f := fun m i => zcR xs (fun _ _ => some true) m false i) (fun m i hi => by
    have hx : xs[i]? = some xs[i] := List.getElem?_eq_getElem hi
    obtain ⟨f1, f2⟩ := h.at_ hx
    simp only [zcR, jn, zal hx, zaf hx, cond_true, Option.bind_some, zac hi (show xs.length ≤ maxi by unfold maxi; omega), zcD f1, zcG (zas f2)]
    unfold zru
    rw [zj1 hx]
    cases zaY xs[i].Path
    · rfl
    · cases zaM xs[i].Who
      · rfl
      · by_cases h0 : (0 : Int) < (i : Int)
        · obtain ⟨y, hy, ey⟩ := znO hx (show xs.length ≤ maxi by unfold maxi; omega) h0
          rw [hy, ey, decide_eq_true h0]
          simp only [Option.bind_some]
          cases Op.bytesLess y.Path xs[i].Path <;> rfl
        · rw [decide_eq_false h0]; rfl) (fun m => by simp only [zcR, zad, cond_false]) _ (by omega)]
  cases zf2 (zru xs) 0 xs.length <;> rfl
theorem zmq {xs : List Owner} (h : OB xs) : ze3 xs = some (zc5 xs) := by
  have hm := zas h.1
  unfold ze3 zc5
  simp only [jn, zak]
  rw [zbt (n := xs.length) (g := zru xs) (r0 := some false) (Z := some (decide ((xs.length : Int) ≤ 5))) (f := fun m i => zcs xs (fun _ _ => some (decide ((xs.length : Int) ≤ 5))) m false i) (fun m i hi => by
    have hx : xs[i]? = some xs[i] := List.getElem?_eq_getElem hi
    obtain ⟨f1, f2⟩ := h.at_ hx
    simp only [zcs, jn, zal hx, zaf hx, cond_true, Option.bind_some, zac hi hm, zgX f1, zc4 (zas f2)]
    unfold zru
    rw [zj1 hx]
    cases zaY xs[i].Path
    · rfl
    · cases zaM xs[i].Who
      · rfl
      · by_cases h0 : (0 : Int) < (i : Int)
        · obtain ⟨y, hy, ey⟩ := znO hx hm h0
          rw [hy, ey, decide_eq_true h0]
          simp only [Option.bind_some, zhJ]
          cases Op.bytesLess y.Path xs[i].Path <;> rfl
        · rw [decide_eq_false h0]; rfl) (fun m => by simp only [zcs, zad, cond_false]) _ (by omega)]
  cases decide ((xs.length : Int) ≤ 5) <;> cases zf2 (zru xs) 0 xs.length <;> rfl
theorem zpr {xs : List Owner} (h : zc5 xs = true) {i : Nat} {x : Owner} (hx : xs[i]? = some x) : zaY x.Path = true := by
  unfold zc5 at h
  simp only [Bool.and_eq_true] at h
  have := zaL.1 h.2 i (Nat.zero_le _) (by have := zau hx; omega)
  unfold zru at this
  rw [zj1 hx] at this
  simp only [Bool.and_eq_true] at this
  exact this.1
def zbm (d p : Str) : Bool := (d ++ [47]).isPrefixOf p
theorem zjQ {d p : Str} (hd : d.length ≤ 1048576) (hp : p.length ≤ 1048576) (h1 : zaY d = true) (h2 : zaY p = true) : zbR d p = some (zbm d p) := by
  unfold zbR strings_HasPrefix zbm
  have hs : saM d ([47] : Str) = some (d ++ [47]) := by
    unfold saM
    rw [if_pos]
    simp only [List.length_cons, List.length_nil, lim]
    omega
  simp only [jn, zcD hd, zcD hp, h1, h2, Option.bind_some, cond_true, hs, Lib.hasPrefix]
theorem zgY {c : UInt8} : ∀ {d p : Str}, (d ++ [c]).isPrefixOf p = (p.take d.length == d && p[d.length]? == some c)
  | [], [] => by simp
  | [], x :: p => by
    by_cases e : c = x
    · subst e; simp [List.isPrefixOf]
    · have e1 : (c == x) = false := beq_false_of_ne e
      have e2 : ((some x : Option UInt8) == some c) = false := beq_false_of_ne (fun h => e (Option.some.inj h).symm)
      simp only [List.nil_append, List.isPrefixOf, e1, List.length_nil, List.take_zero, List.getElem?_cons_zero, e2, Bool.false_and, Bool.and_false]
  | y :: d, [] => by simp [List.isPrefixOf]
  | y :: d, x :: p => by
    have ih := zgY (c := c) (d := d) (p := p)
    simp only [List.cons_append, List.isPrefixOf, List.length_cons, List.take_succ_cons, List.getElem?_cons_succ, ih]
    by_cases e : y = x
    · subst e
      simp
    · have e1 : (y == x) = false := beq_false_of_ne e
      have e2 : (x == y) = false := beq_false_of_ne (fun h => e h.symm)
      simp [e1, e2]
theorem zne {d p : Str} (hp : p.length ≤ 1048576) : zg4 d p = some (zbm d p) := by
  unfold zg4 zbm
  simp only [jn]
  rw [zgY]
  by_cases hl : (d.length : Int) < (p.length : Int)
  · have hlt : d.length < p.length := by omega
    have hx : p[d.length]? = some p[d.length] := List.getElem?_eq_getElem hlt
    rw [decide_eq_true hl, cond_true, ziw (by omega), Option.bind_some, hx]
    cases p.take d.length == d with
    | false => rfl
    | true =>
      rw [cond_true, ziB hx, Option.bind_some, Bool.true_and]
      congr 1
      have := (show ∀ u : UInt8, (((UInt8.toNat u : Nat) : Int) == (47 : Int)) = (some u == some (47 : UInt8)) from fun u => by
        have hb := zlY u 47
        rw [show (((UInt8.toNat (47 : UInt8) : Nat) : Int)) = 47 from rfl] at hb
        rw [hb]
        simp)
      exact this _
  · rw [decide_eq_false hl, cond_false, List.getElem?_eq_none (by omega)]
    simp
def ownStep (path : Str) (b : Nat × Str) (x : Owner) : Nat × Str :=
  bif (x.Path == path || zbm x.Path path) && decide (b.1 < x.Path.length) then (x.Path.length, x.Who) else b
def ziy (xs : List Owner) (path : Str) : Str := (xs.foldl (ownStep path) (0, [])).2
theorem zrB {xs : List Owner} {path : Str} (hb : OB xs) (hp : path.length ≤ 1048576) {K : Str → Int → Int → Option Str} : ∀ (n i m : Nat) (b : Nat × Str), i + n = xs.length → n < m →
    zdH xs path K m b.2 (b.1 : Int) (i : Int) = K ((xs.drop i).foldl (ownStep path) b).2 (((xs.drop i).foldl (ownStep path) b).1 : Int) (xs.length : Int)
  | n, i, 0, b, _, hm => by omega
  | 0, i, m + 1, b, hi, _ => by
    obtain rfl : i = xs.length := by omega
    simp only [zdH, zad, cond_false, List.drop_length, List.foldl_nil]
  | n + 1, i, m + 1, b, hi, hm => by
    have hlt : i < xs.length := by omega
    have hx : xs[i]? = some xs[i] := List.getElem?_eq_getElem hlt
    have hd : xs.drop i = xs[i] :: xs.drop (i + 1) := List.drop_eq_getElem_cons hlt
    have hlt2 : decide ((b.1 : Int) < (xs[i].Path.length : Int)) = decide (b.1 < xs[i].Path.length) := by
      by_cases h : b.1 < xs[i].Path.length
      · rw [decide_eq_true h, decide_eq_true (by omega)]
      · rw [decide_eq_false h, decide_eq_false (by omega)]
    have ih := zrB hb hp (K := K) n (i + 1) m
    simp only [zdH, jn, zal hx, zaf hx, cond_true, Option.bind_some, zne hp, hlt2, zac hlt (zas hb.1)]
    rw [hd, List.foldl_cons]
    unfold ownStep
    cases (xs[i].Path == path) <;> cases zbm xs[i].Path path <;> cases decide (b.1 < xs[i].Path.length) <;> simp only [cond_true, cond_false, Bool.true_or, Bool.false_or, Bool.or_false, Bool.or_true, Bool.true_and, Bool.false_and, Bool.and_false]
    all_goals first | exact ih b (by omega) (by omega) | exact ih (xs[i].Path.length, xs[i].Who) (by omega) (by omega)
theorem zrC {xs : List Owner} {path : Str} (hb : OB xs) (hp : path.length ≤ 1048576) (hok : zc5 xs = true) (hpath : zaY path = true) {K : Int → Str → Str → Option Str} (hK : ∀ i a w, K i a w = some w) : ∀ (n i m : Nat) (bp : Str) (b : Nat × Str), i + n = xs.length → n < m → bp.length = b.1 →
    zdb xs path K m (i : Int) bp b.2 = some ((xs.drop i).foldl (ownStep path) b).2
  | n, i, 0, bp, b, _, hm, _ => by omega
  | 0, i, m + 1, bp, b, hi, _, _ => by
    obtain rfl : i = xs.length := by omega
    simp only [zdb, zad, cond_false, List.drop_length, List.foldl_nil, hK]
  | n + 1, i, m + 1, bp, b, hi, hm, hbp => by
    have hlt : i < xs.length := by omega
    have hx : xs[i]? = some xs[i] := List.getElem?_eq_getElem hlt
    have hd : xs.drop i = xs[i] :: xs.drop (i + 1) := List.drop_eq_getElem_cons hlt
    have hlt2 : decide ((bp.length : Int) < (xs[i].Path.length : Int)) = decide (b.1 < xs[i].Path.length) := by
      by_cases h : b.1 < xs[i].Path.length
      · rw [decide_eq_true h, decide_eq_true (by omega)]
      · rw [decide_eq_false h, decide_eq_false (by omega)]
    obtain ⟨f1, f2⟩ := hb.at_ hx
    have ih := zrC hb hp hok hpath hK n (i + 1) m
    simp only [zdb, jn, zal hx, zaf hx, cond_true, Option.bind_some, zjQ f1 hp (zpr hok hx) hpath, hlt2, zac hlt (zas hb.1)]
    rw [hd, List.foldl_cons]
    unfold ownStep
    cases (xs[i].Path == path) <;> cases zbm xs[i].Path path <;> cases decide (b.1 < xs[i].Path.length) <;> simp only [cond_true, cond_false, Bool.true_or, Bool.false_or, Bool.or_false, Bool.or_true, Bool.true_and, Bool.false_and, Bool.and_false]
    all_goals first | exact ih bp b (by omega) (by omega) hbp | exact ih xs[i].Path (xs[i].Path.length, xs[i].Who) (by omega) (by omega) rfl
def znP (xs : List Owner) (path : Str) : Str := bif zc5 xs && zaY path then ziy xs path else []
theorem znl {xs : List Owner} {path : Str} (hb : OB xs) (hp : path.length ≤ 1048576) : zf8 xs path = some (znP xs path) := by
  unfold zf8 znP
  simp only [jn, zj2 hb, zcD hp, Option.bind_some]
  cases ho : zc5 xs
  · rfl
  cases hq : zaY path
  · rfl
  simp only [Bool.not_true, cond_false, cond_true, Bool.true_and, zak]
  exact zrC hb hp ho hq (K := fun _ _ y12 => some y12) (fun _ _ _ => rfl) xs.length 0 (xs.length + 1) [] (0, []) (by omega) (by omega) rfl
structure OpFit (o : Op) : Prop where
  fit : Bk.fit o
  path : o.Path.length ≤ 1048576
  to : o.To.length ≤ 1048576
  text : Bk.bulk o.Text ≤ 1048576
theorem OpFit.of {o : Op} (h : Bk.fit o) (hb : Bk.bulk o ≤ 1048576) : OpFit o := by
  have e : Bk.bulk o = Bk.bulk o.Kind + (Bk.bulk o.Branch + (Bk.bulk o.Who + (Bk.bulk o.Path + (Bk.bulk o.To + (Bk.bulk o.At + Bk.bulk o.Text))))) := rfl
  have e1 : Bk.bulk o.Path = o.Path.length := rfl
  have e2 : Bk.bulk o.To = o.To.length := rfl
  exact ⟨h, by omega, by omega, by omega⟩
theorem zez : ∀ {b c : Bool}, (b = true ↔ c = true) → b = c := by decide
theorem zkC {i n : Nat} (hi : i < n) (hn : n ≤ maxi) (h0 : (0 : Int) < (i : Int)) : w64 ((i : Int) - 1) = ((i - 1 : Nat) : Int) := by
  rw [zai (by omega) (by unfold maxi at hn; omega)]; omega
structure FB (f : File) : Prop where
  path : f.Path.length ≤ 1048576
  len : f.Text.length ≤ 1048576
  text : Bk.fit f.Text
def TB (t : List File) : Prop := t.length ≤ 1048576 ∧ ∀ f ∈ t, FB f
theorem TB.at_ {t : List File} (h : TB t) {i : Nat} {f : File} (hf : t[i]? = some f) : FB f := h.2 f (List.mem_of_getElem? hf)
theorem TB.maxi {t : List File} (h : TB t) : t.length ≤ maxi := zas h.1
theorem TB.nil : TB [] := ⟨by simp, fun f hf => by simp at hf⟩
def zdR : File := ⟨[], []⟩
theorem zbY {t : List File} {i : Nat} {f : File} (h : t[i]? = some f) : t.getD i zdR = f := by simp [List.getD, h]
theorem zkp {t : List File} {i : Nat} {f : File} (h : t[i]? = some f) (hl : t.length ≤ maxi) (h0 : (0 : Int) < (i : Int)) : ∃ y, gi t (w64 ((i : Int) - 1)) = some y ∧ t.getD (i - 1) zdR = y := by
  have hi := zau h
  have hx : t[i - 1]? = some t[i - 1] := List.getElem?_eq_getElem (by omega)
  exact ⟨_, by rw [zkC hi hl h0]; exact zaf hx, zbY hx⟩
def zhi (t : List File) (i : Nat) : Bool := zaY (t.getD i zdR).Path && (zaB (t.getD i zdR).Text && (bif decide (0 < (i : Int)) then Op.bytesLess (t.getD (i - 1) zdR).Path (t.getD i zdR).Path else true))
def zhj (t : List File) (i : Nat) : Bool := zhi t i && t.all fun f => !zbm (t.getD i zdR).Path f.Path
def zjR (t : List File) (i : Nat) : Bool := zhi t i && (t.take i).all fun f => !(zaY f.Path && (zaY (t.getD i zdR).Path && zbm f.Path (t.getD i zdR).Path))
def zaJ (t : List File) : Bool := decide ((t.length : Int) ≤ 8) && zf2 (zhj t) 0 t.length
theorem zpc (d : Str) (x : UInt8) (r : Str) : d < d ++ x :: r := by
  induction d with
  | nil => exact List.nil_lt_cons _ _
  | cons a d ih => exact List.cons_lt_cons_self.2 ih
theorem znD {d p : Str} (h : zbm d p = true) : d < p := by
  unfold zbm at h
  obtain ⟨t, rfl⟩ := List.isPrefixOf_iff_prefix.1 h
  rw [List.append_assoc]
  exact zpc d 47 t
theorem zjS {t : List File} {n : Nat} (h : ∀ i, i < n → zhi t i = true) {i j : Nat} (hij : i < j) (hj : j < n) : (t.getD i zdR).Path < (t.getD j zdR).Path := by
  induction j with
  | zero => omega
  | succ j ih =>
    have h1 := h (j + 1) hj
    unfold zhi at h1
    rw [decide_eq_true (by omega), cond_true, Nat.add_sub_cancel] at h1
    simp only [Bool.and_eq_true, za6, decide_eq_true_eq] at h1
    rcases Nat.lt_or_ge i j with h2 | h2
    · exact zbb (ih h2 (by omega)) h1.2.2
    · have : i = j := by omega
      subst this
      exact h1.2.2
theorem zkT (t : List File) : zf2 (zjR t) 0 t.length = zf2 (zhj t) 0 t.length := by
  apply zez
  rw [zaL, zaL]
  constructor
  · intro h
    have hf : ∀ i, i < t.length → zhi t i = true := fun i hi => by
      have := h i (Nat.zero_le _) (by omega)
      unfold zjR at this
      simp only [Bool.and_eq_true] at this
      exact this.1
    intro i _ hi
    have hi' : i < t.length := by omega
    unfold zhj
    rw [hf i hi', Bool.true_and, List.all_eq_true]
    intro f hm
    obtain ⟨k, hk⟩ := List.mem_iff_getElem?.1 hm
    have hkl := zau hk
    cases hb : zbm (t.getD i zdR).Path f.Path with
    | false => rfl
    | true =>
      exfalso
      have hlt := znD hb
      rcases Nat.lt_trichotomy i k with h1 | h1 | h1
      · have := h k (Nat.zero_le _) (by omega)
        unfold zjR at this
        simp only [Bool.and_eq_true, List.all_eq_true] at this
        have h2 := this.2 t[i] (List.mem_of_getElem? (i := i) (by rw [List.getElem?_take_of_lt h1]; exact List.getElem?_eq_getElem hi'))
        have p1 := hf i hi'
        have p2 := hf k hkl
        unfold zhi at p1 p2
        simp only [Bool.and_eq_true] at p1 p2
        rw [zbY hk] at h2 p2
        rw [zbY (List.getElem?_eq_getElem hi')] at hb p1
        rw [p1.1, p2.1, hb] at h2
        simp at h2
      · subst h1
        rw [zbY hk] at hlt
        exact zan _ hlt
      · have := zjS hf h1 hi'
        rw [zbY hk] at this
        exact zan _ (zbb hlt this)
  · intro h i _ hi
    have hi' : i < t.length := by omega
    have h1 := h i (Nat.zero_le _) hi
    unfold zhj at h1
    simp only [Bool.and_eq_true] at h1
    unfold zjR
    rw [h1.1, Bool.true_and, List.all_eq_true]
    intro f hm
    obtain ⟨k, hk⟩ := List.mem_iff_getElem?.1 hm
    obtain ⟨hk', hki⟩ := show t[k]? = some f ∧ k < i from by
      rw [List.getElem?_take] at hk
      split at hk
      · exact ⟨hk, by assumption⟩
      · cases hk
    have h2 := h k (Nat.zero_le _) (by omega)
    unfold zhj at h2
    simp only [Bool.and_eq_true, List.all_eq_true] at h2
    have h3 := h2.2 t[i] (List.getElem_mem hi')
    rw [zbY hk'] at h3
    rw [zbY (List.getElem?_eq_getElem hi')]
    have h4 : zbm f.Path t[i].Path = false := by simpa using h3
    rw [h4]
    simp
theorem znf {t : List File} (h : TB t) : zg5 t = some (zaJ t) := by
  have hm := h.maxi
  unfold zg5 zaJ
  simp only [jn, zak]
  rw [zbt (n := t.length) (g := zhj t) (r0 := some false) (Z := some (decide ((t.length : Int) ≤ 8))) (f := fun m i => zdr t (fun _ _ => some (decide ((t.length : Int) ≤ 8))) m false i) (fun m i hi => by
    have hx : t[i]? = some t[i] := List.getElem?_eq_getElem hi
    have fx := h.at_ hx
    simp only [zdr, jn, zal hx, zaf hx, cond_true, Option.bind_some, zac hi hm, zgX fx.path, ziC fx.text]
    unfold zhj zhi
    rw [zbY hx]
    have hin : ∀ K : Bool → Int → Option Bool, zcw t (i : Int) K (t.length + 1) false 0 = bif t.all (fun f => !zbm t[i].Path f.Path) then K false (t.length : Int) else some false := fun K => by
      rw [zbg (α := File) (xs := t) (p := fun f => !zbm t[i].Path f.Path) (r0 := some false) (Z := K false (t.length : Int)) (f := fun m k => zcw t (i : Int) K m false k) (fun m k f hf => by
        simp only [zcw, zal hf, zaf hf, zaf hx, cond_true, Option.bind_some, zac (zau hf) hm, zne (h.at_ hf).path]
        cases zbm t[i].Path f.Path <;> rfl) (fun m => by simp only [zcw, zad, cond_false]) (by omega)]
    cases zaY t[i].Path
    · rfl
    cases zaB t[i].Text
    · rfl
    simp only [Bool.not_true, cond_false, Bool.true_and]
    by_cases h0 : (0 : Int) < (i : Int)
    · obtain ⟨y, hy, ey⟩ := zkp hx hm h0
      rw [hy, ey, decide_eq_true h0]
      simp only [Option.bind_some, zhJ, cond_true]
      cases Op.bytesLess y.Path t[i].Path
      · rfl
      · simp only [Bool.not_true, cond_false, Bool.true_and, zak, hin]
    · rw [decide_eq_false h0]
      simp only [cond_false, Bool.true_and, zak, hin]) (fun m => by simp only [zdr, zad, cond_false]) _ (by omega)]
  cases decide ((t.length : Int) ≤ 8) <;> cases zf2 (zhj t) 0 t.length <;> rfl
theorem zkU {d p : Str} (hd : d.length ≤ 1048576) (hp : p.length ≤ 1048576) : zbR d p = some (zaY d && (zaY p && zbm d p)) := by
  cases h1 : zaY d with
  | false => unfold zbR; simp only [jn, zcD hd, h1, Option.bind_some, cond_false, Bool.false_and]
  | true =>
    cases h2 : zaY p with
    | false => unfold zbR; simp only [jn, zcD hd, zcD hp, h1, h2, Option.bind_some, cond_false, cond_true, Bool.false_and, Bool.and_false]
    | true => rw [zjQ hd hp h1 h2]; rfl
theorem zen {t : List File} (h : TB t) : zb1 t = some (zaJ t) := by
  have hm := h.maxi
  unfold zb1 zaJ
  by_cases h8 : (8 : Int) < (t.length : Int)
  · rw [decide_eq_true h8, decide_eq_false (by omega)]; rfl
  rw [decide_eq_false h8, decide_eq_true (by omega), cond_false, Bool.true_and, ← zkT]
  simp only [jn, zak]
  rw [zbt (n := t.length) (g := zjR t) (r0 := some false) (Z := some true) (f := fun m i => zco t (fun _ _ => some true) m false i) (fun m i hi => by
    have hx : t[i]? = some t[i] := List.getElem?_eq_getElem hi
    have fx := h.at_ hx
    simp only [zco, jn, zal hx, zaf hx, cond_true, Option.bind_some, zac hi hm, zcD fx.path, zfT fx.text, ziw (Nat.le_of_lt hi), zak]
    unfold zjR zhi
    rw [zbY hx]
    have hin : ∀ K : Bool → Int → Option Bool, zbx t[i] (t.take i) K ((t.take i).length + 1) false 0 = bif (t.take i).all (fun f => !(zaY f.Path && (zaY t[i].Path && zbm f.Path t[i].Path))) then K false ((t.take i).length : Int) else some false := fun K => by
      rw [zbg (α := File) (xs := t.take i) (p := fun f => !(zaY f.Path && (zaY t[i].Path && zbm f.Path t[i].Path))) (r0 := some false) (Z := K false ((t.take i).length : Int)) (f := fun m k => zbx t[i] (t.take i) K m false k) (fun m k f hf => by
        have hf2 : FB f := h.2 f (List.mem_of_mem_take (List.mem_of_getElem? hf))
        simp only [zbx, zal hf, zaf hf, cond_true, Option.bind_some, zac (zau hf) (show (t.take i).length ≤ maxi by simp; omega), zkU hf2.path fx.path]
        cases (zaY f.Path && (zaY t[i].Path && zbm f.Path t[i].Path)) <;> rfl) (fun m => by simp only [zbx, zad, cond_false]) (by omega)]
    cases zaB t[i].Text
    · cases zaY t[i].Path <;> rfl
    cases hp : zaY t[i].Path
    · rfl
    simp only [Bool.not_true, cond_false, Bool.true_and]
    by_cases h0 : (0 : Int) < (i : Int)
    · obtain ⟨y, hy, ey⟩ := zkp hx hm h0
      rw [hy, ey, decide_eq_true h0]
      simp only [Option.bind_some, cond_true]
      cases Op.bytesLess y.Path t[i].Path
      · rfl
      · simp only [Bool.not_true, cond_false, Bool.true_and, zak, hin, hp]
    · rw [decide_eq_false h0]
      simp only [cond_false, Bool.true_and, zak, hin, hp]) (fun m => by simp only [zco, zad, cond_false]) _ (by omega)]
  cases zf2 (zjR t) 0 t.length <;> rfl
structure CB (c : Commit) : Prop where
  par : c.Parents.length ≤ 1048576
  who : c.Who.length ≤ 1048576
  tree : TB c.Tree
structure RpB (r : Repo) : Prop where
  coms : r.Commits.length ≤ 1048576
  com : ∀ c ∈ r.Commits, CB c
  heads : r.Heads.length ≤ 1048576
  head : ∀ h ∈ r.Heads, h.Name.length ≤ 1048576
theorem RpB.cat {r : Repo} (h : RpB r) {i : Nat} {c : Commit} (hc : r.Commits[i]? = some c) : CB c := h.com c (List.mem_of_getElem? hc)
theorem RpB.hat {r : Repo} (h : RpB r) {i : Nat} {c : Head} (hc : r.Heads[i]? = some c) : c.Name.length ≤ 1048576 := h.head c (List.mem_of_getElem? hc)
def zfO : Head := ⟨[], 0⟩
theorem zbZ {t : List Head} {i : Nat} {f : Head} (h : t[i]? = some f) : t.getD i zfO = f := by simp [List.getD, h]
theorem zkq {t : List Head} {i : Nat} {f : Head} (h : t[i]? = some f) (hl : t.length ≤ maxi) (h0 : (0 : Int) < (i : Int)) : ∃ y, gi t (w64 ((i : Int) - 1)) = some y ∧ t.getD (i - 1) zfO = y := by
  have hi := zau h
  have hx : t[i - 1]? = some t[i - 1] := List.getElem?_eq_getElem (by omega)
  exact ⟨_, by rw [zkC hi hl h0]; exact zaf hx, zbZ hx⟩
def upB (i p : Int) : Bool := decide (0 ≤ p) && decide (p ≤ i - 1)
def znE (ps : List Int) : Bool := match ps with
  | [p, q] => !(p == q)
  | _ => true
def zli (i : Int) (c : Commit) : Bool := c.Parents.all (upB i) && (decide ((c.Parents.length : Int) ≤ 2) && (znE c.Parents && (zaM c.Who && zaJ c.Tree)))
def noCommit : Commit := ⟨[], [], []⟩
def zlF (cs : List Commit) : Bool := zf2 (fun i => zli i (cs.getD i noCommit)) 0 cs.length
def zgE (n : Nat) (hs : List Head) (i : Nat) : Bool := zaM (hs.getD i zfO).Name && (upB n (hs.getD i zfO).At && (bif decide (0 < (i : Int)) then Op.bytesLess (hs.getD (i - 1) zfO).Name (hs.getD i zfO).Name else true))
def zdy (n : Nat) (hs : List Head) : Bool := zf2 (zgE n hs) 0 hs.length && decide ((hs.length : Int) ≤ 5)
def zae (r : Repo) : Bool := decide ((r.Commits.length : Int) ≤ 16) && (zlF r.Commits && zdy r.Commits.length r.Heads)
theorem zd0 {t : List Commit} {i : Nat} {f : Commit} (h : t[i]? = some f) : t.getD i noCommit = f := by simp [List.getD, h]
theorem zf1 {n : Nat} (hn : n ≤ maxi) : w64 ((n : Int) - 1) = (n : Int) - 1 := zai (by omega) (by unfold maxi at hn; omega)
def zpd (i : Int) (ps : List Int) (k : Nat) : Bool := upB i (ps.getD k 0) && !(decide (0 < (k : Int)) && (ps.getD k 0 == ps.getD 0 0))
theorem zdg {t : List Int} {i : Nat} {f : Int} (h : t[i]? = some f) : t.getD i 0 = f := by simp [List.getD, h]
theorem zl0 (i : Int) (ps : List Int) (h2 : (ps.length : Int) ≤ 2) : zf2 (zpd i ps) 0 ps.length = (ps.all (upB i) && znE ps) := by
  match ps, h2 with
  | [], _ => rfl
  | [p], _ => simp [zf2, zpd, znE]
  | [p, q], _ =>
    simp only [zf2, zpd, znE, List.length_cons, List.length_nil, List.all_cons, List.all_nil]
    have e : (q == p) = (p == q) := by
      apply zez; rw [beq_iff_eq, beq_iff_eq]; exact eq_comm
    simp [e]
    cases upB i p <;> cases upB i q <;> simp
  | p :: q :: s :: l, h => simp at h; omega
theorem zt2 {i : Nat} {c : Commit} (hi : i ≤ 1048576) (hc : CB c) (K : Bool → Int → Option Bool) : zcx (i : Int) c K (c.Parents.length + 1) false 0 = bif zf2 (zpd i c.Parents) 0 c.Parents.length then K false (c.Parents.length : Int) else some false := by
  have hm := zas hc.par
  rw [zbt (n := c.Parents.length) (g := zpd i c.Parents) (r0 := some false) (Z := K false (c.Parents.length : Int)) (f := fun m k => zcx (i : Int) c K m false k) (fun m k hk => by
    have hx : c.Parents[k]? = some c.Parents[k] := List.getElem?_eq_getElem hk
    have h00 : c.Parents[0]? = some c.Parents[0] := List.getElem?_eq_getElem (by omega)
    have hg0 : gi c.Parents 0 = some c.Parents[0] := zaf (i := 0) h00
    simp only [zcx, jn, zal hx, zaf hx, hg0, cond_true, Option.bind_some, zac hk hm, zgV, zf1 (show i ≤ maxi by unfold maxi; omega)]
    unfold zpd
    rw [zdg hx, zdg h00, show (decide ((0 : Int) ≤ c.Parents[k]) && decide (c.Parents[k] ≤ (i : Int) - 1)) = upB i c.Parents[k] from rfl]
    cases upB (i : Int) c.Parents[k]
    · rfl
    · cases decide ((0 : Int) < (k : Int))
      · rfl
      · cases (c.Parents[k] == c.Parents[0]) <;> rfl) (fun m => by simp only [zcx, zad, cond_false]) _ (by omega)]
theorem zt3 {r : Repo} (h : RpB r) : zcy r (fun _ _ => jn (fun (y128 : Bool) => some y128) fun K130 => bif decide (((r.Commits.length : Int) : Int) ≤ (16 : Int)) then (K130 (decide (((r.Heads.length : Int) : Int) ≤ (5 : Int)))) else (K130 false)) (r.Heads.length + 1) false 0 = some (decide ((r.Commits.length : Int) ≤ 16) && zdy r.Commits.length r.Heads) := by
  have hm := zas h.heads
  rw [zbt (n := r.Heads.length) (g := zgE r.Commits.length r.Heads) (r0 := some false) (Z := some (decide ((r.Commits.length : Int) ≤ 16) && decide ((r.Heads.length : Int) ≤ 5))) (f := fun m k => zcy r _ m false k) (fun m k hk => by
    have hx : r.Heads[k]? = some r.Heads[k] := List.getElem?_eq_getElem hk
    simp only [zcy, jn, zal hx, zaf hx, cond_true, Option.bind_some, zac hk hm, zgV, zf1 (zas h.coms), zc4 (zas (h.hat hx))]
    unfold zgE
    rw [zbZ hx, show (decide ((0 : Int) ≤ r.Heads[k].At) && decide (r.Heads[k].At ≤ (r.Commits.length : Int) - 1)) = upB r.Commits.length r.Heads[k].At from rfl]
    cases zaM r.Heads[k].Name
    · rfl
    cases upB r.Commits.length r.Heads[k].At
    · rfl
    by_cases h0 : (0 : Int) < (k : Int)
    · obtain ⟨y, hy, ey⟩ := zkq hx hm h0
      rw [hy, ey, decide_eq_true h0]
      simp only [Option.bind_some, zhJ]
      cases Op.bytesLess y.Name r.Heads[k].Name <;> rfl
    · rw [decide_eq_false h0]; rfl) (fun m => by
      simp only [zcy, zad, cond_false, jn]
      cases decide ((r.Commits.length : Int) ≤ 16) <;> rfl) _ (by omega)]
  unfold zdy
  cases zf2 (zgE r.Commits.length r.Heads) 0 r.Heads.length <;> cases decide ((r.Commits.length : Int) ≤ 16) <;> rfl
theorem zkD {r : Repo} (h : RpB r) : zfg r = some (zae r) := by
  have hm := zas h.coms
  unfold zfg zae zlF
  simp only [jn, zak]
  have h3 := zt3 h
  simp only [jn] at h3
  rw [zbt (n := r.Commits.length) (g := fun i => zli i (r.Commits.getD i noCommit)) (r0 := some false) (Z := some (decide ((r.Commits.length : Int) ≤ 16) && zdy r.Commits.length r.Heads)) (f := fun m i => zds r _ m false i) (fun m i hi => by
    have hx : r.Commits[i]? = some r.Commits[i] := List.getElem?_eq_getElem hi
    have hc := h.cat hx
    have hco := h.coms
    simp only [zds, jn, zal hx, zaf hx, cond_true, Option.bind_some, zac hi hm, zak, zt2 (show i ≤ 1048576 by omega) hc, zd0 hx]
    unfold zli
    by_cases h2 : (2 : Int) < (r.Commits[i].Parents.length : Int)
    · rw [decide_eq_true h2, decide_eq_false (show ¬ (r.Commits[i].Parents.length : Int) ≤ 2 by omega)]
      simp only [cond_true, Bool.false_and, Bool.and_false, cond_false]
      cases zf2 (zpd i r.Commits[i].Parents) 0 r.Commits[i].Parents.length <;> rfl
    · rw [decide_eq_false h2, decide_eq_true (show (r.Commits[i].Parents.length : Int) ≤ 2 by omega), zl0 _ _ (by omega)]
      simp only [cond_false, Bool.true_and, zc4 (zas hc.who), znf hc.tree, Option.bind_some]
      cases r.Commits[i].Parents.all (upB i) <;> cases znE r.Commits[i].Parents <;> cases zaM r.Commits[i].Who <;> cases zaJ r.Commits[i].Tree <;> rfl) (fun m => by
      simp only [zds, zad, cond_false, jn, zak, h3]) _ (by omega)]
  cases zf2 (fun i => zli i (r.Commits.getD i noCommit)) 0 r.Commits.length <;> cases decide ((r.Commits.length : Int) ≤ 16) <;> rfl
theorem zkV {r : Repo} (h : RpB r) {hs : List Head} (hl : hs.length ≤ 1048576) (hn : ∀ h ∈ hs, h.Name.length ≤ 1048576) : ze0 r hs = some (zdy r.Commits.length hs) := by
  have hm := zas hl
  unfold ze0 zdy
  by_cases h5 : (5 : Int) < (hs.length : Int)
  · rw [decide_eq_true h5, decide_eq_false (show ¬ (hs.length : Int) ≤ 5 by omega), Bool.and_false]; rfl
  rw [decide_eq_false h5, decide_eq_true (show (hs.length : Int) ≤ 5 by omega), cond_false, Bool.and_true]
  simp only [jn, zak]
  rw [zbt (n := hs.length) (g := zgE r.Commits.length hs) (r0 := some false) (Z := some true) (f := fun m k => zbS r hs (fun _ _ => some true) m false k) (fun m k hk => by
    have hx : hs[k]? = some hs[k] := List.getElem?_eq_getElem hk
    simp only [zbS, zbC, jn, zal hx, zaf hx, cond_true, Option.bind_some, zac hk hm, zfU, zf1 (zas h.coms), zcG (zas (hn _ (List.mem_of_getElem? hx)))]
    unfold zgE
    rw [zbZ hx, show (decide ((0 : Int) ≤ hs[k].At) && decide (hs[k].At ≤ (r.Commits.length : Int) - 1)) = upB r.Commits.length hs[k].At from rfl]
    cases zaM hs[k].Name
    · rfl
    cases upB r.Commits.length hs[k].At
    · rfl
    by_cases h0 : (0 : Int) < (k : Int)
    · obtain ⟨y, hy, ey⟩ := zkq hx hm h0
      rw [hy, ey, decide_eq_true h0]
      simp only [Option.bind_some]
      cases Op.bytesLess y.Name hs[k].Name <;> rfl
    · rw [decide_eq_false h0]; rfl) (fun m => by simp only [zbS, zad, cond_false]) _ (by omega)]
  cases zf2 (zgE r.Commits.length hs) 0 hs.length <;> rfl
theorem zje {r : Repo} (h : RpB r) : zeG r = some (zae r) := by
  have hm := zas h.coms
  unfold zeG zae zlF
  by_cases h16 : (16 : Int) < (r.Commits.length : Int)
  · rw [decide_eq_true h16, decide_eq_false (by omega)]; rfl
  rw [decide_eq_false h16, decide_eq_true (by omega), cond_false, Bool.true_and]
  simp only [jn, zak]
  rw [zbt (n := r.Commits.length) (g := fun i => zli i (r.Commits.getD i noCommit)) (r0 := some false) (Z := some (zdy r.Commits.length r.Heads)) (f := fun m i => zcp r _ m false i) (fun m i hi => by
    have hx : r.Commits[i]? = some r.Commits[i] := List.getElem?_eq_getElem hi
    have hc := h.cat hx
    have hco := h.coms
    have hpm := zas hc.par
    have hin : ∀ K : Bool → Int → Option Bool, zby (i : Int) r.Commits[i] K (r.Commits[i].Parents.length + 1) false 0 = bif r.Commits[i].Parents.all (upB i) then K false (r.Commits[i].Parents.length : Int) else some false := fun K => by
      rw [zbg (α := Int) (xs := r.Commits[i].Parents) (p := upB i) (r0 := some false) (Z := K false (r.Commits[i].Parents.length : Int)) (f := fun m k => zby (i : Int) r.Commits[i] K m false k) (fun m k p hp => by
        simp only [zby, zal hp, zaf hp, cond_true, Option.bind_some, zac (zau hp) hpm, zfU, zf1 (show i ≤ maxi by unfold maxi; omega)]
        rw [show (decide ((0 : Int) ≤ p) && decide (p ≤ (i : Int) - 1)) = upB i p from rfl]
        cases upB i p <;> rfl) (fun m => by simp only [zby, zad, cond_false]) (by omega)]
    simp only [zcp, jn, zal hx, zaf hx, cond_true, Option.bind_some, zac hi hm, zak, hin, zd0 hx, zcG (zas hc.who), zen hc.tree]
    unfold zli
    match hps : r.Commits[i].Parents with
    | [] => cases zaM r.Commits[i].Who <;> cases zaJ r.Commits[i].Tree <;> rfl
    | [p] =>
      simp only [List.length_cons, List.length_nil, List.all_cons, List.all_nil, znE]
      cases upB i p <;> cases zaM r.Commits[i].Who <;> cases zaJ r.Commits[i].Tree <;> rfl
    | [p, q] =>
      simp only [List.length_cons, List.length_nil, List.all_cons, List.all_nil, znE, gi, List.getElem?_cons_zero, List.getElem?_cons_succ, Int.toNat_zero, Int.toNat_one]
      cases upB i p <;> cases upB i q <;> cases hpq : p == q <;> cases zaM r.Commits[i].Who <;> cases zaJ r.Commits[i].Tree <;> simp [hpq] <;> rfl
    | p :: q :: s :: l =>
      rw [decide_eq_true (by simp only [List.length_cons]; omega), decide_eq_false (show ¬ (((p :: q :: s :: l).length : Nat) : Int) ≤ 2 by simp only [List.length_cons]; omega)]
      simp only [cond_true, Bool.false_and, Bool.and_false, cond_false]) (fun m => by
      simp only [zcp, zad, cond_false, jn, zkV h h.heads h.head, Option.bind_some]) _ (by omega)]
  cases zf2 (fun i => zli i (r.Commits.getD i noCommit)) 0 r.Commits.length <;> rfl
def atB (r : Repo) (name : Str) : Int := match r.Heads.find? (fun h => h.Name == name) with
  | some h => h.At
  | none => -1
theorem zkE {r : Repo} (h : RpB r) (name : Str) : zeQ r name = some (atB r name) := by
  have hm := zas h.heads
  unfold zeQ atB
  simp only [jn, zak]
  rw [zdm (p := fun h : Head => h.Name == name) (xs := r.Heads) (r := fun h => some h.At) (Z := some (-1)) (f := fun m k => zdt r name _ m 0 k) (fun m i x hx => by
    simp only [zdt, zal hx, zaf hx, cond_true, Option.bind_some, zac (zau hx) hm]) (fun m => by simp only [zdt, zad, cond_false]) (by omega)]
  cases r.Heads.find? (fun h => h.Name == name) <;> rfl
theorem zm8 {r : Repo} (h : RpB r) (name : Str) : zcz r name = some (atB r name) := by
  have hm := zas h.heads
  unfold zcz atB
  simp only [jn, zak]
  rw [zdm (p := fun h : Head => h.Name == name) (xs := r.Heads) (r := fun h => some h.At) (Z := some (-1)) (f := fun m k => zbT r name _ m 0 k) (fun m i x hx => by
    simp only [zbT, zal hx, zaf hx, cond_true, Option.bind_some, zac (zau hx) hm]) (fun m => by simp only [zbT, zad, cond_false]) (by omega)]
  cases r.Heads.find? (fun h => h.Name == name) <;> rfl
theorem zap {n : Nat} {a : Int} : upB n a = true ↔ 0 ≤ a ∧ a ≤ (n : Int) - 1 := by
  unfold upB
  simp only [Bool.and_eq_true, decide_eq_true_eq]
def zeY (n : Str) (a : Int) : Bool → List Head → List Head
  | put, [] => bif put then [] else [⟨n, a⟩]
  | put, h :: hs => (bif !put && !Op.bytesLess h.Name n then [⟨n, a⟩] else []) ++ ((bif h.Name != n then [h] else []) ++ zeY n a (put || !Op.bytesLess h.Name n) hs)
theorem zgJ (n : Str) (a : Int) : ∀ (hs : List Head) (put : Bool), (zeY n a put hs).length + (bif put then 1 else 0) ≤ hs.length + 1
  | [], put => by cases put <;> simp [zeY]
  | h :: hs, put => by
    have ih := zgJ n a hs (put || !Op.bytesLess h.Name n)
    unfold zeY
    cases put <;> cases hb : Op.bytesLess h.Name n <;> cases hn : (h.Name != n) <;> simp [hb] at ih ⊢ <;> omega
theorem putH_mem (n : Str) (a : Int) : ∀ (hs : List Head) (put : Bool) (x : Head), x ∈ zeY n a put hs → x ∈ hs ∨ x = ⟨n, a⟩
  | [], put, x, h => by cases put <;> simp [zeY] at h; exact .inr h
  | h :: hs, put, x, hx => by
    unfold zeY at hx
    rcases List.mem_append.1 hx with h1 | h1
    · cases hc : (!put && !Op.bytesLess h.Name n) with
      | true => rw [hc] at h1; simp at h1; exact .inr h1
      | false => rw [hc] at h1; simp at h1
    · rcases List.mem_append.1 h1 with h2 | h2
      · cases hc : (h.Name != n) with
        | true => rw [hc] at h2; simp at h2; exact .inl (by rw [h2]; simp)
        | false => rw [hc] at h2; simp at h2
      · rcases putH_mem n a hs _ x h2 with h3 | h3
        · exact .inl (List.mem_cons_of_mem _ h3)
        · exact .inr h3
def headR (r : Repo) (n : Str) (a : Int) : Repo := ⟨r.Commits, zeY n a false r.Heads⟩
theorem RpB.headR {r : Repo} (h : RpB r) (hs : r.Heads.length ≤ 100000) {n : Str} (hn : n.length ≤ 1048576) (a : Int) : RpB (headR r n a) :=
  ⟨h.coms, h.com, by have := zgJ n a r.Heads false; simp at this; show (zeY n a false r.Heads).length ≤ _; omega, fun x hx => by
    rcases putH_mem n a r.Heads false x hx with h1 | h1
    · exact h.head x h1
    · rw [h1]; exact hn⟩
theorem zag {r : Repo} (h : zae r = true) : r.Commits.length ≤ 16 ∧ r.Heads.length ≤ 5 := by
  unfold zae zdy at h
  simp only [Bool.and_eq_true, decide_eq_true_eq] at h
  omega
def zdc : Repo := ⟨[], []⟩
theorem zaG {t : List File} (h : zaJ t = true) : t.length ≤ 8 := by
  unfold zaJ at h
  simp only [Bool.and_eq_true, decide_eq_true_eq] at h
  omega
theorem zfS {r : Repo} (h : zae r = true) {i : Nat} (hi : i < r.Commits.length) : zli i (r.Commits.getD i noCommit) = true := by
  unfold zae zlF at h
  simp only [Bool.and_eq_true] at h
  exact zaL.1 h.2.1 i (Nat.zero_le _) (by omega)
def zab (r : Repo) (i : Nat) : List Int := (r.Commits.getD i noCommit).Parents
theorem zaI {r : Repo} (h : zae r = true) {i : Nat} (hi : i < r.Commits.length) : (zab r i).length ≤ 2 ∧ ∀ p ∈ zab r i, 0 ≤ p ∧ p ≤ (i : Int) - 1 := by
  have := zfS h hi
  unfold zli at this
  simp only [Bool.and_eq_true, decide_eq_true_eq, List.all_eq_true] at this
  obtain ⟨h1, h2, _⟩ := this
  refine ⟨by unfold zab; omega, fun p hp => ?_⟩
  have := h1 p hp
  unfold upB at this
  simp only [Bool.and_eq_true, decide_eq_true_eq] at this
  exact this
theorem ziz {r : Repo} {i : Nat} (hi : i < r.Commits.length) : gi r.Commits (i : Int) = some (r.Commits.getD i noCommit) := by
  rw [zd0 (List.getElem?_eq_getElem hi)]
  exact zaf (List.getElem?_eq_getElem hi)
theorem zgF {r : Repo} (h : zae r = true) {x : Head} (hx : x ∈ r.Heads) : 0 ≤ x.At ∧ x.At ≤ (r.Commits.length : Int) - 1 ∧ zaM x.Name = true := by
  obtain ⟨i, hi⟩ := List.mem_iff_getElem?.1 hx
  unfold zae zdy at h
  simp only [Bool.and_eq_true] at h
  have := zaL.1 h.2.2.1 i (Nat.zero_le _) (by have := zau hi; omega)
  unfold zgE upB at this
  rw [zbZ hi] at this
  simp only [Bool.and_eq_true, decide_eq_true_eq] at this
  exact ⟨this.2.1.1, this.2.1.2, this.1⟩
theorem at_range {r : Repo} (h : zae r = true) (n : Str) : atB r n = -1 ∨ (0 ≤ atB r n ∧ atB r n ≤ (r.Commits.length : Int) - 1) := by
  unfold atB
  cases hf : r.Heads.find? (fun h => h.Name == n) with
  | none => exact .inl rfl
  | some x =>
    have := zgF h (List.mem_of_find?_eq_some hf)
    exact .inr ⟨this.1, this.2.1⟩
def zkr (mk : List Bool) (p : Int) : List Bool := mk.set p.toNat true
theorem zgK (mk : List Bool) (p : Int) : (zkr mk p).length = mk.length := by simp [zkr]
theorem zjf : ∀ (ps : List Int) (mk : List Bool), (ps.foldl zkr mk).length = mk.length
  | [], mk => rfl
  | p :: ps, mk => by rw [List.foldl_cons, zjf ps, zgK]
def zjg (r : Repo) (i : Nat) (mk : List Bool) : List Bool := bif mk.getD i false then (zab r i).foldl zkr mk else mk
theorem zft (r : Repo) (i : Nat) (mk : List Bool) : (zjg r i mk).length = mk.length := by
  unfold zjg
  cases mk.getD i false
  · rfl
  · exact zjf _ _
def zeo (r : Repo) : Nat → List Bool → List Bool
  | 0, mk => mk
  | i + 1, mk => zeo r i (zjg r i mk)
theorem zhV (r : Repo) : ∀ (i : Nat) (mk : List Bool), (zeo r i mk).length = mk.length
  | 0, mk => rfl
  | i + 1, mk => by unfold zeo; rw [zhV r i, zft]
def zav (r : Repo) (a : Nat) : List Bool := zeo r (a + 1) ((List.replicate r.Commits.length false).set a true)
theorem zaQ (r : Repo) (a : Nat) : (zav r a).length = r.Commits.length := by unfold zav; rw [zhV]; simp
def zid (mk : List Bool) : List Int := ((List.range mk.length).filter fun i => mk.getD i false).map Int.ofNat
def zaP (r : Repo) (a : Int) : List Int := zid (zav r a.toNat)
theorem zcB {mk : List Bool} {i : Nat} (h : i < mk.length) : gi mk (i : Int) = some (mk.getD i false) := by
  have hx : mk[i]? = some mk[i] := List.getElem?_eq_getElem h
  rw [zaf hx]
  simp [List.getD, hx]
theorem zl6 {mk : List Bool} {p : Int} {i : Nat} (h : mk.getD i false = true) : (zkr mk p).getD i false = true := by
  unfold zkr
  by_cases e : p.toNat = i
  · subst e
    have hl : p.toNat < mk.length := by
      rcases Nat.lt_or_ge p.toNat mk.length with h1 | h1
      · exact h1
      · rw [List.getD, List.getElem?_eq_none (by omega)] at h; simp at h
    simp [List.getD, hl]
  · simp only [List.getD, List.getElem?_set_ne e] at h ⊢
    exact h
theorem zoC {r : Repo} (h : zae r = true) {i : Nat} (hi : i < r.Commits.length) {F : List Bool → Option (List Int)} : ∀ (j k m : Nat) (mk : List Bool), k + j = (zab r i).length → j < m → mk.length = r.Commits.length →
    zcU r (i : Int) (fun _ y27 => F y27) m (k : Int) mk = F (bif mk.getD i false then ((zab r i).drop k).foldl zkr mk else mk)
  | j, k, 0, mk, _, hm, _ => by omega
  | 0, k, m + 1, mk, hk, _, hl => by
    obtain rfl : k = (zab r i).length := by omega
    have e : (r.Commits.getD i noCommit).Parents = zab r i := rfl
    simp only [zcU, jn, ziz hi, Option.bind_some, e, zad, cond_false, List.drop_length, List.foldl_nil]
    cases mk.getD i false <;> rfl
  | j + 1, k, m + 1, mk, hk, hm, hl => by
    have hlt : k < (zab r i).length := by omega
    have hx : (zab r i)[k]? = some (zab r i)[k] := List.getElem?_eq_getElem hlt
    obtain ⟨hs, hp⟩ := zaI h hi
    obtain ⟨p0, p1⟩ := hp _ (List.getElem_mem hlt)
    have e : (r.Commits.getD i noCommit).Parents = zab r i := rfl
    have hn : (((zab r i)[k].toNat : Nat) : Int) = (zab r i)[k] := by omega
    have hg : gi mk (zab r i)[k] = some (mk.getD (zab r i)[k].toNat false) := by
      rw [← hn]
      exact zcB (by omega)
    have hsi : siM mk (zab r i)[k] true = some (zkr mk (zab r i)[k]) := by
      have := zbG (xs := mk) (i := (zab r i)[k].toNat) (by omega) true
      rw [hn] at this
      exact this
    simp only [zcU, jn, ziz hi, Option.bind_some, e, zal hx, cond_true, zcB (show i < mk.length by omega), zaf hx, hg, hsi]
    cases hb : mk.getD i false with
    | false => rfl
    | true =>
      rw [cond_true, cond_true, zac hlt (by unfold maxi; omega), zoC h hi j (k + 1) m _ (by omega) (by omega) (by rw [zgK]; exact hl), zl6 hb, cond_true, List.drop_eq_getElem_cons hlt, List.foldl_cons]
theorem zoD {r : Repo} (h : zae r = true) {F : List Bool → Option (List Int)} : ∀ (i m : Nat) (mk : List Bool), i ≤ r.Commits.length → i < m → mk.length = r.Commits.length →
    zbL r (fun _ y => F y) m ((i : Int) - 1) mk = F (zeo r i mk)
  | i, 0, mk, _, hm, _ => by omega
  | 0, m + 1, mk, _, _, _ => by
    simp only [zbL]
    rw [decide_eq_false (by omega)]
    rfl
  | i + 1, m + 1, mk, hi, hm, hl => by
    have hs := (zag h).1
    have e : (((i + 1 : Nat) : Int)) - 1 = (i : Int) := by omega
    simp only [zbL, jn, e]
    rw [decide_eq_true (by omega), cond_true]
    have hp := (zaI h (show i < r.Commits.length by omega)).1
    have h2 := zoC h (show i < r.Commits.length by omega) (F := fun y27 => zbL r (fun _ y => F y) m (w64 ((i : Int) - 1)) y27) (zab r i).length 0 4 mk (by omega) (by omega) hl
    refine (h2).trans ?_
    rw [zf1 (show i ≤ maxi by unfold maxi; omega)]
    refine (zoD h i m _ (by omega) (by omega) ?_).trans rfl
    have := zft r i mk
    unfold zjg at this
    rw [List.drop_zero, this]
    exact hl
theorem zl7 {mk : List Bool} (hl : mk.length ≤ 1000) : ∀ (k i m : Nat) (out : List Int), i + k = mk.length → k < m → out.length ≤ i →
    zbK mk (fun y69 _ => some y69) m out (i : Int) = some (out ++ ((List.range' i k).filter fun i => mk.getD i false).map Int.ofNat)
  | k, i, 0, out, _, hm, _ => by omega
  | 0, i, m + 1, out, hi, _, _ => by
    obtain rfl : i = mk.length := by omega
    simp only [zbK, zad, cond_false]
    simp
  | k + 1, i, m + 1, out, hi, hm, ho => by
    have hlt : i < mk.length := by omega
    have hx : mk[i]? = some mk[i] := List.getElem?_eq_getElem hlt
    simp only [zbK, jn, zal hx, cond_true, zcB hlt, Option.bind_some, zac hlt (show mk.length ≤ maxi by unfold maxi; omega), ap1 (x := (i : Int)) (show out.length ≤ 1048576 by omega)]
    rw [List.range'_succ, List.filter_cons]
    cases hb : mk.getD i false with
    | true =>
      rw [cond_true, zl7 hl k (i + 1) m _ (by omega) (by omega) (by simp; omega), if_pos rfl]
      simp
    | false =>
      rw [cond_false, zl7 hl k (i + 1) m _ (by omega) (by omega) (by omega), if_neg (by simp)]
theorem zhK {r : Repo} (h : zae r = true) {a : Int} (h0 : 0 ≤ a) (h1 : a ≤ (r.Commits.length : Int) - 1) : zeC r a = some (zaP r a) := by
  have hs := (zag h).1
  obtain ⟨n, rfl⟩ := Int.eq_ofNat_of_zero_le h0
  have hn : n < r.Commits.length := by omega
  have hl : (List.replicate r.Commits.length false).length = r.Commits.length := by simp
  unfold zeC
  rw [zgO (by simp [lim]; omega), Option.bind_some, zcB (by rw [hl]; exact hn), Option.bind_some, zbG (by rw [hl]; exact hn), Option.bind_some]
  simp only [jn, zak]
  have e := zoD h (F := fun y18 => zbK y18 (fun y69 _ => some y69) (y18.length + 1) ([] : List Int) 0) (n + 1) (((n : Int) + 1 - 0).toNat + 1) ((List.replicate r.Commits.length false).set n true) (by omega) (by omega) (by simp)
  rw [show (((n + 1 : Nat) : Int)) - 1 = (n : Int) by omega] at e
  refine e.trans ?_
  have hml := zaQ r n
  unfold zav at hml
  have e3 := zl7 (mk := zeo r (n + 1) ((List.replicate r.Commits.length false).set n true)) (by omega) r.Commits.length 0 (r.Commits.length + 1) [] (by omega) (by omega) (by simp)
  rw [hml]
  refine e3.trans ?_
  unfold zaP zid zav
  rw [Int.toNat_natCast, hml, List.range_eq_range']
  rfl
theorem zaZ {r : Repo} {a x : Int} (h : x ∈ zaP r a) : 0 ≤ x ∧ x ≤ (r.Commits.length : Int) - 1 := by
  unfold zaP zid at h
  rw [zaQ] at h
  obtain ⟨i, hi, rfl⟩ := List.mem_map.1 h
  have := List.mem_range.1 (List.mem_filter.1 hi).1
  constructor
  · exact Int.natCast_nonneg i
  · show (i : Int) ≤ _; omega
theorem zdX (r : Repo) (a : Int) : (zaP r a).length ≤ r.Commits.length := by
  unfold zaP zid
  rw [zaQ, List.length_map]
  exact Nat.le_trans (List.length_filter_le _ _) (by simp)
def zfC (l : List Int) (n : Int) : Bool := l.any fun x => x == n
theorem zks {l : List Int} (hl : l.length ≤ 1000000) (n : Int) : zfn l n = some (zfC l n) := by
  unfold zfn zfC
  simp only [jn, zak]
  rw [zdm (p := fun x : Int => x == n) (xs := l) (r := fun _ => some true) (Z := some false) (f := fun m k => zcV l n _ m false k) (fun m i x hx => by
    simp only [zcV, zal hx, zaf hx, cond_true, Option.bind_some, zac (zau hx) (show l.length ≤ maxi by unfold maxi; omega)]) (fun m => by simp only [zcV, zad, cond_false]) (by omega)]
  cases hf : l.find? (fun x => x == n) with
  | some x =>
    have : l.any (fun x => x == n) = true := List.any_eq_true.2 ⟨x, List.mem_of_find?_eq_some hf, by simpa using List.find?_some hf⟩
    rw [this]
  | none =>
    have : l.any (fun x => x == n) = false := by
      rw [List.any_eq_false]
      intro x hx
      have := List.find?_eq_none.1 hf x hx
      simpa using this
    rw [this]
def zok (r : Repo) (l : List Int) (i : Nat) : Bool := zf2 (fun k => ((k : Int) == (i : Int)) || !zfC (zaP r (l.getD k 0)) (l.getD i 0)) 0 l.length
def znm (p : Nat → Bool) (l : List Int) : List Int := ((List.range l.length).filter p).map fun i => l.getD i 0
def zcY (r : Repo) (a b : Int) : List Int := (zaP r a).filter (zfC (zaP r b))
def zaT (r : Repo) (a b : Int) : List Int := znm (zok r (zcY r a b)) (zcY r a b)
theorem zik {l : List Int} {i : Nat} (h : i < l.length) : gi l (i : Int) = some (l.getD i 0) := by
  rw [zdg (List.getElem?_eq_getElem h)]
  exact zaf (List.getElem?_eq_getElem h)
theorem znQ {r : Repo} (h : zae r = true) {l : List Int} (hl : l.length ≤ 1000) (hm : ∀ x ∈ l, 0 ≤ x ∧ x ≤ (r.Commits.length : Int) - 1) {i : Nat} (hi : i < l.length) {F : Bool → Option (List Int)} : ∀ (n k m : Nat) (b : Bool), k + n = l.length → n < m →
    zcc r l (i : Int) (fun y _ => F y) m b (k : Int) = F (b && zf2 (fun k => ((k : Int) == (i : Int)) || !zfC (zaP r (l.getD k 0)) (l.getD i 0)) k n)
  | n, k, 0, b, _, hm' => by omega
  | 0, k, m + 1, b, hk, _ => by
    obtain rfl : k = l.length := by omega
    simp only [zcc, zad, cond_false, zf2, Bool.and_true]
  | n + 1, k, m + 1, b, hk, hm' => by
    have hlt : k < l.length := by omega
    have hx : l[k]? = some l[k] := List.getElem?_eq_getElem hlt
    have hs := (zag h).1
    obtain ⟨q0, q1⟩ := hm _ (List.getElem_mem hlt)
    have hal := zdX r l[k]
    have ih := fun b => znQ h hl hm hi (F := F) n (k + 1) m b (by omega) (by omega)
    simp only [zcc, zal hx, cond_true, zac hlt (show l.length ≤ maxi by unfold maxi; omega), zaf hx, zik hi, Option.bind_some, zhK h q0 q1, zks (show (zaP r l[k]).length ≤ 1000000 by omega), ih, zf2, zdg hx]
    cases b <;> cases ((k : Int) == (i : Int)) <;> simp
theorem zlw {r : Repo} (h : zae r = true) {l : List Int} (hl : l.length ≤ 1000) (hm : ∀ x ∈ l, 0 ≤ x ∧ x ≤ (r.Commits.length : Int) - 1) : ∀ (k i m : Nat) (out : List Int), i + k = l.length → k < m → out.length ≤ i →
    zbk r l (fun y _ => some y) m out (i : Int) = some (out ++ ((List.range' i k).filter (zok r l)).map fun i => l.getD i 0)
  | k, i, 0, out, _, hm', _ => by omega
  | 0, i, m + 1, out, hi, _, _ => by
    obtain rfl : i = l.length := by omega
    simp only [zbk, zad, cond_false]
    simp
  | k + 1, i, m + 1, out, hi, hm', ho => by
    have hlt : i < l.length := by omega
    have hx : l[i]? = some l[i] := List.getElem?_eq_getElem hlt
    have h3 := znQ h hl hm hlt (F := fun y104 => bif y104 then ((gi l (i : Int)).bind fun u151 => (apM out [u151]).bind fun q160 => zbk r l (fun y _ => some y) m q160 (w64 ((i : Int) + 1))) else zbk r l (fun y _ => some y) m out (w64 ((i : Int) + 1))) l.length 0 (l.length + 1) true (by omega) (by omega)
    simp only [zbk, jn, zal hx, cond_true, zak]
    refine h3.trans ?_
    rw [Bool.true_and, List.range'_succ, List.filter_cons, zac hlt (show l.length ≤ maxi by unfold maxi; omega)]
    show (bif zok r l i then _ else _) = _
    cases hb : zok r l i with
    | true =>
      rw [cond_true, zaf hx, Option.bind_some, ap1 (show out.length ≤ 1048576 by omega), Option.bind_some, zlw h hl hm k (i + 1) m _ (by omega) (by omega) (by simp; omega), if_pos rfl]
      simp [hx]
    | false =>
      rw [cond_false, zlw h hl hm k (i + 1) m _ (by omega) (by omega) (by omega), if_neg (by simp)]
theorem zol {r : Repo} (h : zae r = true) {a b : Int} (ha : 0 ≤ a) (ha' : a ≤ (r.Commits.length : Int) - 1) (hb : 0 ≤ b) (hb' : b ≤ (r.Commits.length : Int) - 1) : zf5 r a b = some (zaT r a b) := by
  have hs := (zag h).1
  have la := zdX r a
  have lb := zdX r b
  unfold zf5
  rw [zhK h ha ha', Option.bind_some, zhK h hb hb', Option.bind_some]
  simp only [jn, zak]
  have hl : (zcY r a b).length ≤ 1000 := Nat.le_trans (List.length_filter_le _ _) (by omega)
  have hm : ∀ x ∈ zcY r a b, 0 ≤ x ∧ x ≤ (r.Commits.length : Int) - 1 := fun x hx => zaZ (List.mem_filter.1 hx).1
  rw [zeE (xs := zaP r a) (p := zfC (zaP r b)) (g := fun x : Int => x) (Z := fun acc => zbk r acc (fun y _ => some y) (acc.length + 1) ([] : List Int) 0) (f := fun m acc i => zc8 (zaP r a) (zaP r b) _ m acc i) (fun m i x acc hx hacc => by
    have hi := zau hx
    simp only [zc8, jn, zal hx, zaf hx, cond_true, Option.bind_some, zac hi (show (zaP r a).length ≤ maxi by unfold maxi; omega), zks (show (zaP r b).length ≤ 1000000 by omega), ap1 (show acc.length ≤ 1048576 by omega)]
    cases zfC (zaP r b) x <;> rfl) (fun m acc => by simp only [zc8, zad, cond_false]) (by omega)]
  have e : ((zaP r a).filter (zfC (zaP r b))).map (fun x => x) = zcY r a b := by simp [zcY]
  rw [e]
  have := zlw h hl hm (zcY r a b).length 0 ((zcY r a b).length + 1) [] (by omega) (by omega) (by simp)
  refine this.trans ?_
  unfold zaT znm
  rw [List.range_eq_range']
  rfl
theorem zj3 {r : Repo} {a b x : Int} (h : x ∈ zaT r a b) : 0 ≤ x ∧ x ≤ (r.Commits.length : Int) - 1 := by
  unfold zaT znm at h
  obtain ⟨i, hi, rfl⟩ := List.mem_map.1 h
  have hr := List.mem_range.1 (List.mem_filter.1 hi).1
  rw [zdg (List.getElem?_eq_getElem hr)]
  exact zaZ (List.mem_filter.1 (List.getElem_mem hr)).1
theorem zmr (r : Repo) (a b : Int) : (zaT r a b).length ≤ r.Commits.length := by
  unfold zaT znm
  rw [List.length_map]
  refine Nat.le_trans (List.length_filter_le _ _) ?_
  rw [List.length_range]
  exact Nat.le_trans (List.length_filter_le _ _) (zdX r a)
def getT (t : List File) (p : Str) : List Str × Bool := match t.find? (fun f => f.Path == p) with
  | some f => (f.Text, true)
  | none => ([], false)
theorem zgL {t : List File} (h : TB t) (p : Str) : zd4 t p = some (getT t p) := by
  have hm := h.maxi
  unfold zd4 getT
  simp only [jn, zak]
  rw [zdm (p := fun f : File => f.Path == p) (xs := t) (r := fun f => some (f.Text, true)) (Z := some (([] : List Str), false)) (f := fun m k => zcX t p _ m [] false k) (fun m i x hx => by
    simp only [zcX, zal hx, zaf hx, cond_true, Option.bind_some, zac (zau hx) hm]) (fun m => by simp only [zcX, zad, cond_false]) (by omega)]
  cases t.find? (fun f => f.Path == p) <;> rfl
def zbq (t : List File) : Prop := ∀ f ∈ t, zaB f.Text = true
theorem zbN {t : List File} (h : zbq t) (p : Str) : zaB (getT t p).1 = true := by
  unfold getT
  cases hf : t.find? (fun f => f.Path == p) with
  | some f => exact h f (List.mem_of_find?_eq_some hf)
  | none => rfl
theorem zam {t : List File} (h : zaJ t = true) : zbq t := by
  intro f hf
  obtain ⟨i, hi⟩ := List.mem_iff_getElem?.1 hf
  unfold zaJ at h
  simp only [Bool.and_eq_true] at h
  have := zaL.1 h.2 i (Nat.zero_le _) (by have := zau hi; omega)
  unfold zhj zhi at this
  rw [zbY hi] at this
  simp only [Bool.and_eq_true] at this
  exact this.1.2.1
theorem zbB {t : List File} (h : zaJ t = true) {f : File} (hf : f ∈ t) : zaY f.Path = true := by
  obtain ⟨i, hi⟩ := List.mem_iff_getElem?.1 hf
  unfold zaJ at h
  simp only [Bool.and_eq_true] at h
  have := zaL.1 h.2 i (Nat.zero_le _) (by have := zau hi; omega)
  unfold zhj zhi at this
  rw [zbY hi] at this
  simp only [Bool.and_eq_true] at this
  exact this.1.1
theorem zim (c : UInt8) : ∀ (r w : Str), w.length + r.length + 1 = sumB (fun p => p.length + 1) (curS c w r)
  | [], w => by simp [curS, sumB]
  | x :: r, w => by
    unfold curS
    cases x == c with
    | true =>
      rw [cond_true]
      have := zim c r []
      simp only [sumB, List.length_nil, List.length_cons] at this ⊢
      omega
    | false =>
      rw [cond_false]
      have := zim c r (w ++ [x])
      simp only [List.length_append, List.length_cons, List.length_nil] at this ⊢
      omega
theorem zoE {c : Nat} : ∀ {l : List Str}, (∀ p ∈ l, p.length + 1 ≤ c) → sumB (fun p => p.length + 1) l ≤ c * l.length
  | [], _ => by simp [sumB]
  | x :: l, h => by
    have h1 := h x (by simp)
    have h2 := zoE (c := c) (l := l) (fun p hp => h p (List.mem_cons_of_mem _ hp))
    simp only [sumB, List.length_cons, Nat.mul_add, Nat.mul_one]
    omega
theorem zdK {s : Str} (h : zaM s = true) : s.length ≤ 6 := by
  unfold zaM at h
  simp only [Bool.and_eq_true, decide_eq_true_eq] at h
  omega
theorem zeA {s : Str} (h : zaY s = true) : s.length ≤ 20 := by
  unfold zaY at h
  simp only [Bool.and_eq_true, decide_eq_true_eq, List.all_eq_true] at h
  have h1 := zim 47 s []
  have h2 := zoE (c := 7) (l := curS 47 [] s) (fun p hp => by have := zdK (h.2 p hp); omega)
  simp only [List.length_nil] at h1
  omega
structure Gd (q : Prop) (r : Repo) : Prop where
  rb : RpB r
  ok : zae r = true
  hd : q → r.Commits ≠ [] → r.Heads ≠ []
variable {q : Prop}
def zaA (r : Repo) (i : Nat) : List File := (r.Commits.getD i noCommit).Tree
theorem Gd.tree {r : Repo} (h : Gd q r) {i : Nat} (hi : i < r.Commits.length) : TB (zaA r i) ∧ zaJ (zaA r i) = true ∧ zbq (zaA r i) ∧ (zaA r i).length ≤ 8 := by
  have hx : r.Commits[i]? = some r.Commits[i] := List.getElem?_eq_getElem hi
  have h1 : zaJ (zaA r i) = true := by
    have := zfS h.ok hi
    unfold zli at this
    simp only [Bool.and_eq_true] at this
    exact this.2.2.2.2
  refine ⟨?_, h1, zam h1, zaG h1⟩
  unfold zaA
  rw [zd0 hx]
  exact (h.rb.cat hx).tree
theorem zi1 : TB ([] : List File) ∧ zaJ [] = true ∧ zbq [] ∧ ([] : List File).length ≤ 8 := ⟨TB.nil, rfl, fun f hf => by simp at hf, by simp⟩
theorem zeD {r : Repo} {z : Int} (h0 : 0 ≤ z) (h1 : z ≤ (r.Commits.length : Int) - 1) : gi r.Commits z = some (r.Commits.getD z.toNat noCommit) := by
  obtain ⟨n, rfl⟩ := Int.eq_ofNat_of_zero_le h0
  exact ziz (by omega)
theorem zkH (n : Str) (a : Int) : ∀ (hs : List Head), zeY n a false hs ≠ []
  | [] => by simp [zeY]
  | h :: hs => by
    unfold zeY
    cases hb : Op.bytesLess h.Name n
    · simp
    · have := zkH n a hs
      cases (h.Name != n) <;> simp [this]
def zhQ (r : Repo) (a b : Int) : List File := bif ((zaT r a b).length : Int) == 0 then [] else zaA r ((zaT r a b).getD ((zaT r a b).length - 1) 0).toNat
theorem zjo {r : Repo} (h : Gd q r) {a b : Int} (ha : 0 ≤ a) (ha' : a ≤ (r.Commits.length : Int) - 1) (hb : 0 ≤ b) (hb' : b ≤ (r.Commits.length : Int) - 1) : zhc r a b = some (zhQ r a b) ∧ TB (zhQ r a b) ∧ zaJ (zhQ r a b) = true := by
  have hs := (zag h.ok).1
  have hl := zmr r a b
  unfold zhc zhQ
  rw [zol h.ok ha ha' hb hb', Option.bind_some]
  cases hz : ((zaT r a b).length : Int) == 0 with
  | true => exact ⟨rfl, zi1.1, zi1.2.1⟩
  | false =>
    have hne : ((zaT r a b).length : Int) ≠ 0 := by simpa using hz
    have e : w64 (((zaT r a b).length : Int) - 1) = (((zaT r a b).length - 1 : Nat) : Int) := by rw [zai (by omega) (by omega)]; omega
    have hlt : (zaT r a b).length - 1 < (zaT r a b).length := by omega
    have hm : (zaT r a b).getD ((zaT r a b).length - 1) 0 ∈ zaT r a b := by
      rw [zdg (List.getElem?_eq_getElem hlt)]; exact List.getElem_mem hlt
    obtain ⟨q0, q1⟩ := zj3 hm
    rw [cond_false, cond_false, e, zik hlt, Option.bind_some, zeD q0 q1, Option.bind_some]
    have := h.tree (i := ((zaT r a b).getD ((zaT r a b).length - 1) 0).toNat) (by omega)
    exact ⟨rfl, this.1, this.2.1⟩
theorem Gd.head {r : Repo} (h : Gd q r) {n : Str} {b : Int} (hn : n.length ≤ 1048576) (ho : zae (headR r n b) = true) : Gd q (headR r n b) := by
  obtain ⟨s1, s2⟩ := zag h.ok
  exact ⟨h.rb.headR (by omega) hn b, ho, fun _ _ => zkH _ _ _⟩
end Go.Vm
namespace Go.Vm
open Go Go.Sx
set_option linter.unusedSimpArgs false
set_option linter.unusedVariables false
section
variable {r : l30Rd} {p : Int}
structure Drawn (r : Repo) : Prop where
  rb : RpB r
  coms : r.Commits.length ≤ 16
  heads : r.Heads.length ≤ 6
theorem Gd.drawn {r : Repo} (h : Gd True r) : Drawn r := by
  obtain ⟨s1, s2⟩ := zag h.ok
  exact ⟨h.rb, s1, by omega⟩
end
inductive Rc (r : Repo) : Nat → Nat → Prop
  | refl (a : Nat) : Rc r a a
  | step {a b : Nat} {p : Int} : Rc r a b → p ∈ zab r b → Rc r a p.toNat
theorem Rc.trans {r : Repo} {a b c : Nat} (h : Rc r a b) (k : Rc r b c) : Rc r a c := by
  induction k with
  | refl => exact h
  | step _ hp ih => exact Rc.step ih hp
theorem Rc.head {r : Repo} {a c : Nat} (h : Rc r a c) : c = a ∨ ∃ p ∈ zab r a, Rc r p.toNat c := by
  induction h with
  | refl => exact .inl rfl
  | @step b p hb hp ih =>
    rcases ih with e | ⟨q, hq, hc⟩
    · subst e
      exact .inr ⟨p, hp, Rc.refl _⟩
    · exact .inr ⟨q, hq, Rc.step hc hp⟩
theorem Rc.le {r : Repo} (hr : zae r = true) {a c : Nat} (ha : a < r.Commits.length) (h : Rc r a c) : c ≤ a ∧ c < r.Commits.length := by
  induction h with
  | refl => exact ⟨Nat.le_refl _, ha⟩
  | step _ hp ih =>
    have := (zaI hr ih.2).2 _ hp
    omega
def mkd (mk : List Bool) (j : Nat) : Prop := mk.getD j false = true
theorem zjC {mk : List Bool} {j : Nat} (h : mkd mk j) : j < mk.length := by
  unfold mkd at h
  rcases Nat.lt_or_ge j mk.length with h1 | h1
  · exact h1
  · rw [List.getD, List.getElem?_eq_none (by omega)] at h; simp at h
theorem zkt {mk : List Bool} {p : Int} {j : Nat} : mkd (zkr mk p) j ↔ mkd mk j ∨ (j = p.toNat ∧ j < mk.length) := by
  unfold mkd zkr
  by_cases e : p.toNat = j
  · subst e
    by_cases hl : p.toNat < mk.length
    · simp [List.getD, hl]
    · rw [List.set_eq_of_length_le (by omega)]
      simp [hl]
  · simp only [List.getD, List.getElem?_set_ne e]
    constructor
    · exact .inl
    · rintro (h | ⟨h, _⟩)
      · exact h
      · exact absurd h.symm e
theorem zjj : ∀ (ps : List Int) (mk : List Bool) (j : Nat), mkd (ps.foldl zkr mk) j ↔ mkd mk j ∨ (∃ p ∈ ps, j = p.toNat ∧ j < mk.length)
  | [], mk, j => by simp
  | p :: ps, mk, j => by
    rw [List.foldl_cons, zjj ps, zkt, zgK]
    constructor
    · rintro ((h | h) | ⟨q, hq, h⟩)
      · exact .inl h
      · exact .inr ⟨p, by simp, h⟩
      · exact .inr ⟨q, List.mem_cons_of_mem _ hq, h⟩
    · rintro (h | ⟨q, hq, h⟩)
      · exact .inl (.inl h)
      · rcases List.mem_cons.1 hq with e | e
        · subst e; exact .inl (.inr h)
        · exact .inr ⟨q, e, h⟩
theorem stepM_mkd {r : Repo} {i : Nat} {mk : List Bool} {j : Nat} : mkd (zjg r i mk) j ↔ mkd mk j ∨ (mkd mk i ∧ ∃ p ∈ zab r i, j = p.toNat ∧ j < mk.length) := by
  unfold zjg
  cases hb : mk.getD i false with
  | true =>
    rw [cond_true, zjj]
    constructor
    · rintro (h | h)
      · exact .inl h
      · exact .inr ⟨hb, h⟩
    · rintro (h | ⟨_, h⟩)
      · exact .inl h
      · exact .inr h
  | false =>
    rw [cond_false]
    constructor
    · exact .inl
    · rintro (h | ⟨h, _⟩)
      · exact h
      · unfold mkd at h; rw [hb] at h; cases h
def zt4 (r : Repo) (a i : Nat) (mk : List Bool) : Prop := (∀ j, mkd mk j → Rc r a j) ∧ mkd mk a ∧ ∀ j, i ≤ j → mkd mk j → ∀ p ∈ zab r j, mkd mk p.toNat
theorem zhX {r : Repo} (hr : zae r = true) {a : Nat} : ∀ (i : Nat) (mk : List Bool), i ≤ r.Commits.length → mk.length = r.Commits.length → zt4 r a i mk → zt4 r a 0 (zeo r i mk)
  | 0, mk, _, _, h => h
  | i + 1, mk, hi, hl, h => by
    unfold zeo
    refine zhX hr i _ (by omega) (by rw [zft]; exact hl) ?_
    obtain ⟨h1, h2, h3⟩ := h
    have hp := (zaI hr (show i < r.Commits.length by omega)).2
    refine ⟨fun j hj => ?_, stepM_mkd.2 (.inl h2), fun j hij hj p hpj => ?_⟩
    · rcases stepM_mkd.1 hj with h | ⟨h, p, hpp, e, _⟩
      · exact h1 j h
      · rw [e]; exact Rc.step (h1 i h) hpp
    · have hj' : mkd mk j := by
        rcases stepM_mkd.1 hj with h | ⟨h, q, hqq, e, _⟩
        · exact h
        · have := hp q hqq; omega
      have hjl := zjC hj'
      have hpb := (zaI hr (show j < r.Commits.length by omega)).2 p hpj
      rcases Nat.lt_or_ge i j with h4 | h4
      · exact stepM_mkd.2 (.inl (h3 j (by omega) hj' p hpj))
      · have e : j = i := by omega
        subst e
        exact stepM_mkd.2 (.inr ⟨hj', p, hpj, rfl, by omega⟩)
theorem zdo {r : Repo} (hr : zae r = true) {a : Nat} (ha : a < r.Commits.length) (j : Nat) : mkd (zav r a) j ↔ Rc r a j := by
  have h0 : zt4 r a (a + 1) ((List.replicate r.Commits.length false).set a true) := by
    have hm : ∀ j, mkd ((List.replicate r.Commits.length false).set a true) j ↔ j = a := fun j => by
      have := zkt (mk := List.replicate r.Commits.length false) (p := (a : Int)) (j := j)
      unfold zkr at this
      rw [Int.toNat_natCast] at this
      rw [this]
      constructor
      · rintro (h | h)
        · unfold mkd at h
          rw [List.getD, List.getElem?_replicate] at h
          split at h <;> simp at h
        · exact h.1
      · intro e
        exact .inr ⟨e, by rw [e]; simpa using ha⟩
    refine ⟨fun j hj => ?_, (hm a).2 rfl, fun j hij hj => ?_⟩
    · rw [(hm j).1 hj]; exact Rc.refl _
    · have := (hm j).1 hj; omega
  have h := zhX hr (a + 1) _ (by omega) (by simp) h0
  constructor
  · exact h.1 j
  · intro hc
    induction hc with
    | refl => exact h.2.1
    | step _ hp ih => exact h.2.2 _ (Nat.zero_le _) ih _ hp
theorem zbe {r : Repo} (hr : zae r = true) {a : Int} (h0 : 0 ≤ a) (h1 : a ≤ (r.Commits.length : Int) - 1) (x : Int) : x ∈ zaP r a ↔ 0 ≤ x ∧ Rc r a.toNat x.toNat := by
  unfold zaP zid
  rw [zaQ, List.mem_map]
  constructor
  · rintro ⟨i, hi, rfl⟩
    rw [List.mem_filter, List.mem_range] at hi
    exact ⟨Int.natCast_nonneg i, (zdo hr (show a.toNat < r.Commits.length by omega) i).1 hi.2⟩
  · rintro ⟨hx, h⟩
    have hl := (h.le hr (by omega)).2
    exact ⟨x.toNat, List.mem_filter.2 ⟨List.mem_range.2 hl, (zdo hr (show a.toNat < r.Commits.length by omega) x.toNat).2 h⟩, Int.toNat_of_nonneg hx⟩
theorem zaO {l : List Int} {n : Int} : zfC l n = true ↔ n ∈ l := by
  unfold zfC
  rw [List.any_eq_true]
  constructor
  · rintro ⟨x, hx, e⟩
    have : x = n := by simpa using e
    rw [← this]; exact hx
  · intro h
    exact ⟨n, h, by simp⟩
def zgl (l : List Int) : Prop := l.Pairwise (· < ·)
theorem zjk (n : Nat) : (List.range n).Pairwise (· < ·) := List.pairwise_lt_range
theorem zgN (mk : List Bool) : zgl (zid mk) := by
  unfold zgl zid
  rw [List.pairwise_map]
  exact ((zjk _).sublist (List.filter_sublist)).imp fun h => by simpa using h
theorem zfu (r : Repo) (a : Int) : zgl (zaP r a) := zgN _
theorem zgl.ext : ∀ {xs ys : List Int}, zgl xs → zgl ys → (∀ a, a ∈ xs ↔ a ∈ ys) → xs = ys
  | [], [], _, _, _ => rfl
  | [], y :: ys, _, _, h => by have := (h y).2 (by simp); simp at this
  | x :: xs, [], _, _, h => by have := (h x).1 (by simp); simp at this
  | x :: xs, y :: ys, hx, hy, h => by
    have hx' := List.pairwise_cons.1 hx
    have hy' := List.pairwise_cons.1 hy
    have e : x = y := by
      rcases List.mem_cons.1 ((h x).1 (by simp)) with e | hm
      · exact e
      · rcases List.mem_cons.1 ((h y).2 (by simp)) with e | hm2
        · exact e.symm
        · have h1 := hx'.1 y hm2
          have h2 := hy'.1 x hm
          omega
    subst e
    rw [zgl.ext hx'.2 hy'.2 (fun a => by
      constructor
      · intro ha
        rcases List.mem_cons.1 ((h a).1 (List.mem_cons_of_mem _ ha)) with e2 | e2
        · have := hx'.1 a ha; omega
        · exact e2
      · intro ha
        rcases List.mem_cons.1 ((h a).2 (List.mem_cons_of_mem _ ha)) with e2 | e2
        · have := hy'.1 a ha; omega
        · exact e2)]
theorem zmd {r : Repo} (h : zae r = true) {i : Nat} (hi : i < r.Commits.length) {F : List Bool → Option (List Bool)} : ∀ (j k m : Nat) (mk : List Bool), k + j = (zab r i).length → j < m → mk.length = r.Commits.length →
    zaK F (r.Commits.getD i noCommit) m (k : Int) mk = F (((zab r i).drop k).foldl zkr mk)
  | j, k, 0, mk, _, hm, _ => by omega
  | 0, k, m + 1, mk, hk, _, hl => by
    obtain rfl : k = (zab r i).length := by omega
    have e : (r.Commits.getD i noCommit).Parents = zab r i := rfl
    simp only [zaK, e, zad, cond_false, List.drop_length, List.foldl_nil]
  | j + 1, k, m + 1, mk, hk, hm, hl => by
    have hlt : k < (zab r i).length := by omega
    have hx : (zab r i)[k]? = some (zab r i)[k] := List.getElem?_eq_getElem hlt
    obtain ⟨hs, hp⟩ := zaI h hi
    obtain ⟨p0, p1⟩ := hp _ (List.getElem_mem hlt)
    have e : (r.Commits.getD i noCommit).Parents = zab r i := rfl
    have hn : (((zab r i)[k].toNat : Nat) : Int) = (zab r i)[k] := by omega
    have hg : gi mk (zab r i)[k] = some (mk.getD (zab r i)[k].toNat false) := by
      rw [← hn]
      exact zcB (by omega)
    have hsi : siM mk (zab r i)[k] true = some (zkr mk (zab r i)[k]) := by
      have := zbG (xs := mk) (i := (zab r i)[k].toNat) (by omega) true
      rw [hn] at this
      exact this
    simp only [zaK, e, zal hx, cond_true, zaf hx, hg, hsi, Option.bind_some]
    rw [zac hlt (by unfold maxi; omega), zmd h hi j (k + 1) m _ (by omega) (by omega) (by rw [zgK]; exact hl), List.drop_eq_getElem_cons hlt, List.foldl_cons]
theorem zme {r : Repo} (h : zae r = true) : ∀ (i m : Nat) (mk : List Bool), i ≤ r.Commits.length → i < m → mk.length = r.Commits.length →
    zaE r (fun _ y => some y) m ((i : Int) - 1) mk = some (zeo r i mk)
  | i, 0, mk, _, hm, _ => by omega
  | 0, m + 1, mk, _, _, _ => by
    simp only [zaE]
    rw [decide_eq_false (by omega)]
    rfl
  | i + 1, m + 1, mk, hi, hm, hl => by
    have hs := (zag h).1
    have hil : i < r.Commits.length := by omega
    have e : (((i + 1 : Nat) : Int)) - 1 = (i : Int) := by omega
    have e0 : (r.Commits.getD i noCommit).Parents = zab r i := rfl
    have hstep : (((i : Int) - 1)) = (i : Int) - 1 := rfl
    simp only [zaE, jn, e]
    rw [decide_eq_true (by omega), cond_true, zcB (by omega), Option.bind_some]
    have ih := zme h i m (zjg r i mk) (by omega) (by omega) (by rw [zft]; exact hl)
    unfold zeo
    rw [← ih]
    unfold zjg
    have hw : w64 ((i : Int) - 1) = (i : Int) - 1 := zf1 (show i ≤ maxi by unfold maxi; omega)
    cases mk.getD i false with
    | false => simp only [cond_false, hw]
    | true =>
      have h2 := zmd h hil (F := fun y27 => zaE r (fun _ y => some y) m (w64 ((i : Int) - 1)) y27) (zab r i).length 0 ((zab r i).length + 1) mk (by omega) (by omega) hl
      simp only [cond_true, ziz hil, Option.bind_some, e0, zak]
      refine h2.trans ?_
      rw [List.drop_zero, hw]
theorem zdS {r : Repo} (h : zae r = true) {a : Int} (h0 : 0 ≤ a) (h1 : a ≤ (r.Commits.length : Int) - 1) : zaU r a = some (zav r a.toNat) := by
  have hs := (zag h).1
  obtain ⟨n, rfl⟩ := Int.eq_ofNat_of_zero_le h0
  have hn : n < r.Commits.length := by omega
  have hl : (List.replicate r.Commits.length false).length = r.Commits.length := by simp
  unfold zaU zav
  rw [zgO (by simp [lim]; omega), Option.bind_some, zcB (by rw [hl]; exact hn), Option.bind_some, zbG (by rw [hl]; exact hn), Option.bind_some]
  simp only [jn]
  have e := zme h (n + 1) (((n : Int) + 1 - 0).toNat + 1) ((List.replicate r.Commits.length false).set n true) (by omega) (by omega) (by simp)
  rw [show (((n + 1 : Nat) : Int)) - 1 = (n : Int) by omega] at e
  refine e.trans ?_
  rw [Int.toNat_natCast]
theorem zg0 {mk : List Bool} (hl : mk.length ≤ 1000) : ∀ (k i m : Nat) (out : List Int), i + k = mk.length → k < m → out.length ≤ i →
    zcq mk (fun y69 _ => some y69) m out (i : Int) = some (out ++ ((List.range' i k).filter fun i => mk.getD i false).map Int.ofNat)
  | k, i, 0, out, _, hm, _ => by omega
  | 0, i, m + 1, out, hi, _, _ => by
    obtain rfl : i = mk.length := by omega
    simp only [zcq, zad, cond_false]
    simp
  | k + 1, i, m + 1, out, hi, hm, ho => by
    have hlt : i < mk.length := by omega
    have hx : mk[i]? = some mk[i] := List.getElem?_eq_getElem hlt
    simp only [zcq, jn, zal hx, cond_true, zcB hlt, Option.bind_some, zac hlt (show mk.length ≤ maxi by unfold maxi; omega), ap1 (x := (i : Int)) (show out.length ≤ 1048576 by omega)]
    rw [List.range'_succ, List.filter_cons]
    cases hb : mk.getD i false with
    | true =>
      rw [cond_true, zg0 hl k (i + 1) m _ (by omega) (by omega) (by simp; omega), if_pos rfl]
      simp
    | false =>
      rw [cond_false, zg0 hl k (i + 1) m _ (by omega) (by omega) (by omega), if_neg (by simp)]
theorem zgm {mk : List Bool} (hl : mk.length ≤ 1000) : za9 mk = some (zid mk) := by
  unfold za9 zid
  simp only [jn, zak]
  rw [show (0 : Int) = ((0 : Nat) : Int) from rfl, zg0 hl mk.length 0 (mk.length + 1) [] (by omega) (by omega) (by simp), List.range_eq_range']
  rfl
theorem TB.of {t : List File} (hf : Bk.fit t) (h : Bk.bulk t ≤ 1048576) : TB t := ⟨zcT h, fun f hm => by
  have h1 : Bk.bulk f ≤ 1048576 := zhN h hm
  have h2 : Bk.bulk f = f.Path.length + Bk.bulk f.Text := rfl
  exact ⟨by omega, zcT (show Bk.bulk f.Text ≤ 1048576 by omega), (hf.2 f hm).2⟩⟩
theorem RpB.of {r : Repo} (hf : Bk.fit r) (h : Bk.bulk r ≤ 1048576) : RpB r := by
  have h0 : Bk.bulk r = Bk.bulk r.Commits + Bk.bulk r.Heads := rfl
  have hc : Bk.bulk r.Commits ≤ 1048576 := by omega
  have hh : Bk.bulk r.Heads ≤ 1048576 := by omega
  refine ⟨zcT hc, fun c hm => ?_, zcT hh, fun x hm => ?_⟩
  · have h1 : Bk.bulk c ≤ 1048576 := zhN hc hm
    have h2 : Bk.bulk c = Bk.bulk c.Parents + (c.Who.length + Bk.bulk c.Tree) := rfl
    exact ⟨zcT (show Bk.bulk c.Parents ≤ 1048576 by omega), by omega, TB.of (hf.1.2 c hm).2.2 (by omega)⟩
  · have h1 : Bk.bulk x ≤ 1048576 := zhN hh hm
    have h2 : Bk.bulk x = x.Name.length + 0 := rfl
    omega
theorem zjl {R α σ : Type} {xs : List α} {g : σ → α → σ} {I : σ → Prop} {f : Nat → Int → σ → Option R} {Z : σ → Option R}
    (hs : ∀ m (i : Nat) x s, xs[i]? = some x → I s → f (m + 1) (i : Int) s = f m ((i + 1 : Nat) : Int) (g s x) ∧ I (g s x)) (he : ∀ m s, I s → f (m + 1) (xs.length : Int) s = Z s) :
    ∀ (k i m : Nat) (s : σ), i + k = xs.length → k < m → I s → f m (i : Int) s = Z ((xs.drop i).foldl g s) ∧ I ((xs.drop i).foldl g s)
  | k, i, 0, s, _, hm, _ => by omega
  | 0, i, m + 1, s, hi, _, h => by
    obtain rfl : i = xs.length := by omega
    rw [List.drop_length, List.foldl_nil]
    exact ⟨he m s h, h⟩
  | k + 1, i, m + 1, s, hi, hm, h => by
    have hlt : i < xs.length := by omega
    obtain ⟨e1, e2⟩ := hs m i xs[i] s (List.getElem?_eq_getElem hlt) h
    rw [e1, List.drop_eq_getElem_cons hlt, List.foldl_cons]
    exact zjl hs he k (i + 1) m _ (by omega) (by omega) e2
theorem zgq {R α σ : Type} {xs : List α} {g : σ → α → σ} {I : σ → Prop} {f : Nat → Int → σ → Option R} {Z : σ → Option R} {s : σ} (h : I s)
    (hs : ∀ m (i : Nat) x s, xs[i]? = some x → I s → f (m + 1) (i : Int) s = f m ((i + 1 : Nat) : Int) (g s x) ∧ I (g s x)) (he : ∀ m s, I s → f (m + 1) (xs.length : Int) s = Z s) : f (xs.length + 1) 0 s = Z (xs.foldl g s) := by
  have := (zjl hs he xs.length 0 (xs.length + 1) s (by omega) (by omega) h).1
  rwa [List.drop_zero] at this
theorem zms {α : Type} (q : α → Bool) : ∀ (xs : List α) (b : Bool), xs.foldl (fun b x => b && q x) b = (b && xs.all q)
  | [], b => by simp
  | x :: xs, b => by rw [List.foldl_cons, zms q xs, List.all_cons, Bool.and_assoc]
theorem zlx {α : Type} (q : α → Bool) : ∀ (xs : List α) (b : Bool), xs.foldl (fun b x => b || q x) b = (b || xs.any q)
  | [], b => by simp
  | x :: xs, b => by rw [List.foldl_cons, zlx q xs, List.any_cons, Bool.or_assoc]
theorem zi2 {mk : List Bool} {x : Int} : x ∈ zid mk ↔ 0 ≤ x ∧ mkd mk x.toNat := by
  unfold zid
  rw [List.mem_map]
  constructor
  · rintro ⟨i, hi, rfl⟩
    rw [List.mem_filter] at hi
    exact ⟨Int.natCast_nonneg i, hi.2⟩
  · rintro ⟨hx, h⟩
    exact ⟨x.toNat, List.mem_filter.2 ⟨List.mem_range.2 (zjC h), h⟩, Int.toNat_of_nonneg hx⟩
theorem zlo (mk : List Bool) : (zid mk).length ≤ mk.length := by
  unfold zid
  rw [List.length_map]
  exact Nat.le_trans (List.length_filter_le _ _) (by simp)
section
variable {r : l30Rd} {p : Int}
end
def zlG (p : Int) : Prop := -9223372036854775808 ≤ p ∧ p ≤ 9223372036854775807
section
variable {r : Repo} {has : List Int} {sent : List Commit}
end
set_option linter.unusedSectionVars false
structure SentB (sent : List Commit) : Prop where
  len : sent.length ≤ 16
  cb : ∀ c ∈ sent, CB c
  fit : ∀ c ∈ sent, ∀ p ∈ c.Parents, zlG p
theorem SentB.take {sent : List Commit} (h : SentB sent) (k : Nat) : SentB (sent.take k) :=
  ⟨Nat.le_trans (List.length_take_le' k sent) h.len, fun c hc => h.cb c (List.mem_of_mem_take hc), fun c hc => h.fit c (List.mem_of_mem_take hc)⟩
theorem SentB.set {sent : List Commit} (h : SentB sent) {c : Commit} (hc : CB c) (hf : ∀ p ∈ c.Parents, zlG p) (k : Nat) : SentB (sent.set k c) :=
  ⟨by rw [List.length_set]; exact h.len, fun d hd => by
    rcases List.mem_or_eq_of_mem_set hd with q | q
    · exact h.cb d q
    · rw [q]; exact hc, fun d hd => by
    rcases List.mem_or_eq_of_mem_set hd with q | q
    · exact h.fit d q
    · rw [q]; exact hf⟩
section
variable {x : Repo} (hr : zae x = true) {a b : Int} (ha : upB x.Commits.length a = true) (hb : upB x.Commits.length b = true)
include hr ha
include hb
end
theorem zps {t : List File} (h : TB t) (p : Str) : zge t p = some (getT t p) := by
  have hm := h.maxi
  unfold zge getT
  simp only [jn, zak]
  rw [zdm (p := fun f : File => f.Path == p) (xs := t) (r := fun f => some (f.Text, true)) (Z := some ([], false)) (f := fun m k => zcZ t p _ m [] false k) (fun m i x hx => by
    have hf := h.at_ hx
    simp only [zcZ, zal hx, zaf hx, cond_true, Option.bind_some, za8 hf.len, zac (zau hx) hm]) (fun m => by simp only [zcZ, zad, cond_false]) (by omega)]
  cases t.find? (fun f => f.Path == p) <;> rfl
section
variable {r : Repo} (h : RpB r) (hr : zae r = true) {a : Nat} (ha : a < r.Commits.length)
include h hr ha
end
theorem zkw {t : List File} (h : zaJ t = true) : t.Pairwise fun x y => x.Path < y.Path := by
  unfold zaJ at h
  simp only [Bool.and_eq_true] at h
  have hb : ∀ i, i < t.length → zhi t i = true := fun i hi => by
    have := zaL.1 h.2 i (Nat.zero_le _) (by omega)
    unfold zhj at this
    simp only [Bool.and_eq_true] at this
    exact this.1
  refine List.pairwise_iff_getElem.2 fun i j hi hj hij => ?_
  have := zjS hb hij hj
  rwa [zbY (List.getElem?_eq_getElem hi), zbY (List.getElem?_eq_getElem hj)] at this
theorem zqO {t : List File} (h : t.Pairwise fun x y => x.Path < y.Path) {f : File} (hf : f ∈ t) : getT t f.Path = (f.Text, true) := by
  unfold getT
  cases hg : t.find? (fun g => g.Path == f.Path) with
  | none => exact absurd (List.find?_eq_none.1 hg f hf) (by simp)
  | some g =>
    have hgm := List.mem_of_find?_eq_some hg
    have he : g.Path = f.Path := by simpa using List.find?_some hg
    obtain ⟨i, hi, rfl⟩ := List.getElem_of_mem hf
    obtain ⟨j, hj, rfl⟩ := List.getElem_of_mem hgm
    have hp := List.pairwise_iff_getElem.1 h
    rcases Nat.lt_trichotomy i j with q | q | q
    · have := hp i j hi hj q
      rw [he] at this
      exact absurd this (zan _)
    · subst q; rfl
    · have := hp j i hj hi q
      rw [he] at this
      exact absurd this (zan _)
theorem zeB {α : Type} {f : α → Nat} {c : Nat} : ∀ {t : List α}, (∀ s ∈ t, f s ≤ c) → sumB f t ≤ c * t.length
  | [], _ => by simp [sumB]
  | x :: t, h => by
    have h1 := h x (by simp)
    have h2 := zeB (t := t) (fun s hs => h s (by simp [hs]))
    simp only [sumB, List.length_cons, Nat.mul_add, Nat.mul_one]
    omega
theorem znG {t : List Str} (h : zaB t = true) : Bk.bulk t ≤ 130 := by
  have hl := zar h
  have hs : sumB Bk.bulk t ≤ 12 * t.length := zeB fun s hs => by
    have := zie (zaX h s hs)
    show s.length ≤ 12
    omega
  show t.length + sumB Bk.bulk t ≤ 130
  omega
theorem znH {t : List File} (h : zaJ t = true) : Bk.bulk t ≤ 1208 := by
  have hl := zaG h
  have hs : sumB Bk.bulk t ≤ 150 * t.length := zeB fun f hf => by
    have h1 := zeA (zbB h hf)
    have h2 := znG (zam h f hf)
    show f.Path.length + Bk.bulk f.Text ≤ 150
    omega
  show t.length + sumB Bk.bulk t ≤ 1208
  omega
theorem zoF {r : Repo} (h : zae r = true) {c : Commit} (hc : c ∈ r.Commits) : c.Parents.length ≤ 2 ∧ (∀ p ∈ c.Parents, 0 ≤ p ∧ p ≤ 16) ∧ zaM c.Who = true ∧ zaJ c.Tree = true := by
  obtain ⟨i, hi⟩ := List.mem_iff_getElem?.1 hc
  have hil := zau hi
  have s1 := (zag h).1
  have := zfS h (i := i) (by omega)
  rw [zd0 hi] at this
  unfold zli at this
  simp only [Bool.and_eq_true, decide_eq_true_eq, List.all_eq_true] at this
  refine ⟨by omega, fun p hp => ?_, this.2.2.2.1, this.2.2.2.2⟩
  have h1 := this.1 p hp
  unfold upB at h1
  simp only [Bool.and_eq_true, decide_eq_true_eq] at h1
  omega
theorem znI {r : Repo} (h : zae r = true) : Bk.bulk r ≤ 20000 := by
  obtain ⟨s1, s2⟩ := zag h
  have h1 : sumB Bk.bulk r.Commits ≤ 1218 * r.Commits.length := zeB fun c hc => by
    obtain ⟨c1, _, c3, c4⟩ := zoF h hc
    have := zdK c3
    have := znH c4
    have hp : sumB Bk.bulk c.Parents ≤ 0 * c.Parents.length := zeB fun p hp => Nat.le_refl 0
    show c.Parents.length + sumB Bk.bulk c.Parents + (c.Who.length + Bk.bulk c.Tree) ≤ 1218
    omega
  have h2 : sumB Bk.bulk r.Heads ≤ 6 * r.Heads.length := zeB fun x hx => by
    have := zdK (zgF h hx).2.2
    show x.Name.length + 0 ≤ 6
    omega
  show r.Commits.length + sumB Bk.bulk r.Commits + (r.Heads.length + sumB Bk.bulk r.Heads) ≤ 20000
  omega
theorem znJ {t : List File} (h : zaJ t = true) : Bk.fit t := ⟨by have := zaG h; unfold maxi; omega, fun f hf => ⟨by have := zeA (zbB h hf); show f.Path.length ≤ maxi; unfold maxi; omega, by
  have h1 := zam h f hf
  have h2 := zar h1
  exact zcF (by omega) (zaX h1)⟩⟩
theorem znK {r : Repo} (h : zae r = true) : Bk.fit r := by
  obtain ⟨s1, s2⟩ := zag h
  refine ⟨⟨by unfold maxi; omega, fun c hc => ?_⟩, by unfold maxi; omega, fun x hx => ?_⟩
  · obtain ⟨c1, c2, c3, c4⟩ := zoF h hc
    refine ⟨⟨by unfold maxi; omega, fun p hp => ?_⟩, by have := zdK c3; show c.Who.length ≤ maxi; unfold maxi; omega, znJ c4⟩
    have := c2 p hp
    show -9223372036854775808 ≤ p ∧ p ≤ 9223372036854775807
    omega
  · obtain ⟨h1, h2, h3⟩ := zgF h hx
    refine ⟨by have := zdK h3; show x.Name.length ≤ maxi; unfold maxi; omega, ?_⟩
    show -9223372036854775808 ≤ x.At ∧ x.At ≤ 9223372036854775807
    omega
theorem zgl.lt {l : List Int} (h : zgl l) {i k : Nat} (hik : i < k) (hk : k < l.length) : l.getD i 0 < l.getD k 0 := by
  have h1 : i < l.length := by omega
  have := List.pairwise_iff_getElem.1 h i k h1 hk hik
  rw [zdg (List.getElem?_eq_getElem h1), zdg (List.getElem?_eq_getElem hk)]
  exact this
theorem zgl.inj {l : List Int} (h : zgl l) {i k : Nat} (hi : i < l.length) (hk : k < l.length) (e : l.getD i 0 = l.getD k 0) : i = k := by
  rcases Nat.lt_trichotomy i k with h1 | h1 | h1
  · have := h.lt h1 hk; omega
  · exact h1
  · have := h.lt h1 hi; omega
theorem zj4 (r : Repo) (a b : Int) : zgl (zcY r a b) := (zfu r a).sublist List.filter_sublist
theorem zdM {r : Repo} {a b x : Int} : x ∈ zcY r a b ↔ x ∈ zaP r a ∧ x ∈ zaP r b := by
  unfold zcY
  rw [List.mem_filter, zaO]
theorem zqP {l : List Int} (h : zgl l) (p : Nat → Bool) : zgl (znm p l) := by
  unfold zgl znm
  rw [List.pairwise_map]
  refine List.Pairwise.imp_of_mem (fun {i k} hi hk hlt => ?_) ((zjk l.length).sublist List.filter_sublist)
  exact h.lt hlt (List.mem_range.1 (List.mem_filter.1 hk).1)
theorem zhY (r : Repo) (a b : Int) : zgl (zaT r a b) := zqP (zj4 r a b) _
theorem zjG {l : List Int} {x : Int} : x ∈ l ↔ ∃ i, i < l.length ∧ l.getD i 0 = x := by
  constructor
  · intro h
    obtain ⟨i, hi⟩ := List.getElem?_of_mem h
    exact ⟨i, (List.getElem?_eq_some_iff.1 hi).1, zdg hi⟩
  · rintro ⟨i, hi, rfl⟩
    rw [zdg (List.getElem?_eq_getElem hi)]
    exact List.getElem_mem hi
theorem zgr {r : Repo} {a b x : Int} : x ∈ zaT r a b ↔ x ∈ zcY r a b ∧ ∀ y ∈ zcY r a b, y ≠ x → x ∉ zaP r y := by
  have hasc := zj4 r a b
  unfold zaT znm
  rw [List.mem_map]
  constructor
  · rintro ⟨i, hi, rfl⟩
    rw [List.mem_filter, List.mem_range] at hi
    obtain ⟨hil, hb⟩ := hi
    unfold zok at hb
    rw [zaL] at hb
    refine ⟨zjG.2 ⟨i, hil, rfl⟩, fun y hy hne hx => ?_⟩
    obtain ⟨k, hk, rfl⟩ := zjG.1 hy
    have := hb k (Nat.zero_le _) (by omega)
    rw [zaO.2 hx, Bool.not_true, Bool.or_false, beq_iff_eq] at this
    exact hne (by rw [show k = i by omega])
  · rintro ⟨hm, hall⟩
    obtain ⟨i, hi, rfl⟩ := zjG.1 hm
    refine ⟨i, List.mem_filter.2 ⟨List.mem_range.2 hi, ?_⟩, rfl⟩
    unfold zok
    rw [zaL]
    intro k _ hk
    have hkl : k < (zcY r a b).length := by omega
    cases hki : ((k : Int) == (i : Int)) with
    | true => rfl
    | false =>
      have hne : k ≠ i := fun e => by rw [e] at hki; simp at hki
      have := hall _ (zjG.2 ⟨k, hkl, rfl⟩) (fun e => hne (hasc.inj hkl hi e))
      cases hq : zfC (zaP r ((zcY r a b).getD k 0)) ((zcY r a b).getD i 0) with
      | false => rfl
      | true => exact absurd (zaO.1 hq) this
theorem zom (r : Repo) (a b : Int) : zaT r b a = zaT r a b := by
  have hb : ∀ x, x ∈ zcY r b a ↔ x ∈ zcY r a b := fun x => by rw [zdM, zdM]; exact And.comm
  refine zgl.ext (zhY _ _ _) (zhY _ _ _) fun x => ?_
  rw [zgr, zgr, hb]
  exact and_congr Iff.rfl ⟨fun h y hy => h y ((hb y).2 hy), fun h y hy => h y ((hb y).1 hy)⟩
def zk4 (x y : List Bool) (n : Nat) : List Bool := (List.range n).map fun i => x.getD i false && y.getD i false
theorem zsw (x y : List Bool) (n i : Nat) (hi : i < n) : ((List.range i).map (fun i => x.getD i false && y.getD i false) ++ List.replicate (n - i) false).set i (x.getD i false && y.getD i false) = (List.range (i + 1)).map (fun i => x.getD i false && y.getD i false) ++ List.replicate (n - (i + 1)) false := by
  obtain ⟨k, hk⟩ : ∃ k, n - i = k + 1 := ⟨n - i - 1, by omega⟩
  rw [hk, show n - (i + 1) = k by omega, List.set_append_right _ _ (by simp), List.length_map, List.length_range, Nat.sub_self, List.replicate_succ, List.set_cons_zero, List.range_succ, List.map_append, List.append_assoc]
  rfl
theorem zmt {x y q : List Bool} {n : Nat} (hx : x.length = n) (hy : y.length = n) (hq : q.length = n) (hn : n ≤ 1000) {F : List Bool → Option (List Int)} : ∀ (k i m : Nat), i + k = n → k < m →
    zbF x y q (fun _ z => F z) m (i : Int) ((List.range i).map (fun i => x.getD i false && y.getD i false) ++ List.replicate (n - i) false) = F (zk4 x y n)
  | k, i, 0, _, hm => by omega
  | 0, i, m + 1, hi, _ => by
    obtain rfl : i = n := by omega
    simp only [zbF, hq, zad, cond_false, Nat.sub_self, List.replicate_zero, List.append_nil]
    rfl
  | k + 1, i, m + 1, hi, hm => by
    have hlt : i < n := by omega
    have hl : ((List.range i).map (fun i => x.getD i false && y.getD i false) ++ List.replicate (n - i) false).length = n := by simp; omega
    have ih := zmt hx hy hq hn (F := F) k (i + 1) m (by omega) (by omega)
    rw [← zsw x y n i hlt] at ih
    simp only [zbF, hq]
    rw [decide_eq_true (show (i : Int) < (n : Int) by omega), cond_true, zcB (by omega), Option.bind_some]
    have hsi : ∀ v, siM ((List.range i).map (fun i => x.getD i false && y.getD i false) ++ List.replicate (n - i) false) (i : Int) v = some (((List.range i).map (fun i => x.getD i false && y.getD i false) ++ List.replicate (n - i) false).set i v) := fun v => zbG (by omega) v
    have hg := zcB (mk := (List.range i).map (fun i => x.getD i false && y.getD i false) ++ List.replicate (n - i) false) (i := i) (by omega)
    rw [zcB (show i < y.length by omega)]
    simp only [Option.bind_some, hg, hsi, zac hlt (show n ≤ maxi by unfold maxi; omega)]
    cases hxi : x.getD i false with
    | true =>
      rw [hxi, Bool.true_and] at ih
      exact ih
    | false =>
      rw [hxi, Bool.false_and] at ih
      exact ih
def znR (u : Int) (mk : List Bool) (p : Int) : List Bool := bif p != u then mk.set p.toNat false else mk
theorem zj5 (u : Int) : ∀ (ps : List Int) (mk : List Bool), (∀ p ∈ ps, 0 ≤ p) → (ps.foldl (znR u) mk).length = mk.length ∧ ∀ j, j < mk.length → (ps.foldl (znR u) mk).getD j false = (mk.getD j false && !(zfC ps (j : Int) && !((j : Int) == u)))
  | [], mk, _ => ⟨rfl, fun j _ => by simp [zfC]⟩
  | p :: ps, mk, hp => by
    have hl : (znR u mk p).length = mk.length := by unfold znR; cases (p != u) <;> simp
    obtain ⟨e1, e2⟩ := zj5 u ps (znR u mk p) (fun q hq => hp q (List.mem_cons_of_mem _ hq))
    rw [List.foldl_cons]
    refine ⟨e1.trans hl, fun j hj => ?_⟩
    have hp0 := hp p (by simp)
    rw [e2 j (by omega)]
    have hh : zfC (p :: ps) (j : Int) = ((p == (j : Int)) || zfC ps (j : Int)) := rfl
    rw [hh]
    have hs : (znR u mk p).getD j false = (mk.getD j false && !((p == (j : Int)) && !((j : Int) == u))) := by
      unfold znR
      by_cases e : p = (j : Int)
      · subst e
        cases hu : ((j : Int) == u) with
        | true => simp [bne, hu]
        | false => simp [bne, hu, List.getD, hj]
      · rw [beq_false_of_ne e, Bool.false_and, Bool.not_false, Bool.and_true]
        cases (p != u) with
        | false => rfl
        | true =>
          rw [cond_true]
          simp only [List.getD, List.getElem?_set_ne (show p.toNat ≠ j by omega)]
    rw [hs]
    cases mk.getD j false <;> cases (p == (j : Int)) <;> cases zfC ps (j : Int) <;> cases ((j : Int) == u) <;> rfl
def zk5 (r : Repo) (ls : List Int) (mk : List Bool) : List Bool := ls.foldl (fun mk u => (zaP r u).foldl (znR u) mk) mk
theorem zhR (r : Repo) : ∀ (ls : List Int) (mk : List Bool), (zk5 r ls mk).length = mk.length ∧ ∀ j, j < mk.length → (zk5 r ls mk).getD j false = (mk.getD j false && ls.all fun u => !(zfC (zaP r u) (j : Int) && !((j : Int) == u)))
  | [], mk => ⟨rfl, fun j _ => by simp [zk5]⟩
  | u :: ls, mk => by
    obtain ⟨f1, f2⟩ := zj5 u (zaP r u) mk (fun p hp => (zaZ hp).1)
    obtain ⟨e1, e2⟩ := zhR r ls ((zaP r u).foldl (znR u) mk)
    refine ⟨e1.trans f1, fun j hj => ?_⟩
    refine (e2 j (by omega)).trans ?_
    rw [f2 j hj, List.all_cons, Bool.and_assoc]
theorem zpt {r : Repo} (hr : zae r = true) {a b : Int} (ha : upB r.Commits.length a = true) (hb : upB r.Commits.length b = true) : zid (zk4 (zav r a.toNat) (zav r b.toNat) r.Commits.length) = zcY r a b ∧ ∀ j, j < r.Commits.length → (zk4 (zav r a.toNat) (zav r b.toNat) r.Commits.length).getD j false = zfC (zcY r a b) (j : Int) := by
  obtain ⟨a0, a1⟩ := zap.1 ha
  obtain ⟨b0, b1⟩ := zap.1 hb
  have hg : ∀ j, j < r.Commits.length → (zk4 (zav r a.toNat) (zav r b.toNat) r.Commits.length).getD j false = ((zav r a.toNat).getD j false && (zav r b.toNat).getD j false) := fun j hj => by
    unfold zk4
    rw [List.getD, List.getElem?_map, List.getElem?_range hj]
    rfl
  have hm : ∀ j, j < r.Commits.length → ((zk4 (zav r a.toNat) (zav r b.toNat) r.Commits.length).getD j false = true ↔ (j : Int) ∈ zcY r a b) := fun j hj => by
    rw [hg j hj, Bool.and_eq_true, zdM, zbe hr a0 a1, zbe hr b0 b1, Int.toNat_natCast]
    have h1 := zdo hr (show a.toNat < r.Commits.length by omega) j
    have h2 := zdo hr (show b.toNat < r.Commits.length by omega) j
    unfold mkd at h1 h2
    rw [h1, h2]
    exact ⟨fun h => ⟨⟨Int.natCast_nonneg j, h.1⟩, Int.natCast_nonneg j, h.2⟩, fun h => ⟨h.1.2, h.2.2⟩⟩
  have hlen : (zk4 (zav r a.toNat) (zav r b.toNat) r.Commits.length).length = r.Commits.length := by unfold zk4; simp
  refine ⟨zgl.ext (zgN _) (zj4 _ _ _) fun x => ?_, fun j hj => ?_⟩
  · rw [zi2]
    constructor
    · rintro ⟨hx, h⟩
      have hlt := zjC h
      have := (hm x.toNat (by omega)).1 h
      rwa [Int.toNat_of_nonneg hx] at this
    · intro h
      have hxm := zaZ (zdM.1 h).1
      refine ⟨hxm.1, (hm x.toNat (by omega)).2 ?_⟩
      rwa [Int.toNat_of_nonneg hxm.1]
  · apply zez
    rw [hm j hj, zaO]
theorem zpu {r : Repo} (hr : zae r = true) {a b : Int} (ha : upB r.Commits.length a = true) (hb : upB r.Commits.length b = true) : zid (zk5 r (zcY r a b) (zk4 (zav r a.toNat) (zav r b.toNat) r.Commits.length)) = zaT r a b := by
  obtain ⟨_, c2⟩ := zpt hr ha hb
  have hlen : (zk4 (zav r a.toNat) (zav r b.toNat) r.Commits.length).length = r.Commits.length := by unfold zk4; simp
  obtain ⟨g1, g2⟩ := zhR r (zcY r a b) (zk4 (zav r a.toNat) (zav r b.toNat) r.Commits.length)
  have key : ∀ j, j < r.Commits.length → ((zk5 r (zcY r a b) (zk4 (zav r a.toNat) (zav r b.toNat) r.Commits.length)).getD j false = true ↔ (j : Int) ∈ zaT r a b) := fun j hj => by
    rw [g2 j (by omega), c2 j hj, Bool.and_eq_true, zaO, List.all_eq_true, zgr]
    refine and_congr Iff.rfl ⟨fun h y hy hne hx => ?_, fun h y hy => ?_⟩
    · have := h y hy
      rw [zaO.2 hx, beq_false_of_ne (fun e => hne e.symm)] at this
      cases this
    · by_cases e : (j : Int) = y
      · rw [e]; simp
      · have := h y hy (fun e2 => e e2.symm)
        cases hq : zfC (zaP r y) (j : Int) with
        | false => rfl
        | true => exact absurd (zaO.1 hq) this
  refine zgl.ext (zgN _) (zhY _ _ _) fun x => ?_
  rw [zi2]
  constructor
  · rintro ⟨hx, h⟩
    have hlt := zjC h
    have := (key x.toNat (by omega)).1 h
    rwa [Int.toNat_of_nonneg hx] at this
  · intro h
    have hxm := zj3 h
    refine ⟨hxm.1, (key x.toNat (by omega)).2 ?_⟩
    rwa [Int.toNat_of_nonneg hxm.1]
theorem zpv {r : Repo} (hr : zae r = true) {a b : Int} (ha : upB r.Commits.length a = true) (hb : upB r.Commits.length b = true) : zet r a b = some (zaT r a b) := by
  obtain ⟨a0, a1⟩ := zap.1 ha
  obtain ⟨b0, b1⟩ := zap.1 hb
  have hs := (zag hr).1
  obtain ⟨c1, c2⟩ := zpt hr ha hb
  have hlen : (zk4 (zav r a.toNat) (zav r b.toNat) r.Commits.length).length = r.Commits.length := by unfold zk4; simp
  unfold zet
  rw [zdS hr a0 a1, Option.bind_some, zdS hr b0 b1, Option.bind_some, zgO (by simp [lim]; omega), Option.bind_some]
  simp only [jn, List.length_replicate, zak]
  have e1 := zmt (x := zav r a.toNat) (y := zav r b.toNat) (q := List.replicate r.Commits.length false) (n := r.Commits.length) (zaQ _ _) (zaQ _ _) (by simp) (by omega) (F := fun y31 => (zbv y31).bind fun z64 => (za9 y31).bind fun z72 => za4 r z72 (fun _ y84 => (za9 y84).bind fun z166 => some z166) (((z72.length : Int) - 0).toNat + 1) 0 z64) r.Commits.length 0 (r.Commits.length + 1) (by omega) (by omega)
  refine (Eq.trans (by simp) e1).trans ?_
  have hcl : zbv (zk4 (zav r a.toNat) (zav r b.toNat) r.Commits.length) = some (zk4 (zav r a.toNat) (zav r b.toNat) r.Commits.length) := by
    unfold zbv
    rw [if_pos (by rw [hlen]; simp [lim]; omega)]
  have hbl : (zcY r a b).length ≤ r.Commits.length := Nat.le_trans (List.length_filter_le _ _) (zdX r a)
  rw [hcl, Option.bind_some, zgm (by omega), Option.bind_some, c1, zak]
  rw [zgq (xs := zcY r a b) (g := fun mk u => (zaP r u).foldl (znR u) mk) (I := fun mk => mk.length = r.Commits.length) (Z := fun mk => (za9 mk).bind fun z => some z) (f := fun m i mk => za4 r (zcY r a b) _ m i mk) hlen (fun m i o mk ho hmk => by
    have hom := zaZ (zdM.1 (List.mem_of_getElem? ho)).1
    obtain ⟨f1, f2⟩ := zj5 o (zaP r o) mk (fun p hp => (zaZ hp).1)
    refine ⟨?_, f1.trans hmk⟩
    simp only [za4, jn, zal ho, zaf ho, cond_true, Option.bind_some, zdS hr hom.1 hom.2, zgm (show (zav r o.toNat).length ≤ 1000 by rw [zaQ]; omega), zak]
    have hal := zlo (zav r o.toNat)
    rw [zaQ] at hal
    rw [zgq (xs := zid (zav r o.toNat)) (g := znR o) (I := fun mk => mk.length = r.Commits.length) (Z := fun mk => za4 r (zcY r a b) (fun _ y84 => (za9 y84).bind fun z166 => some z166) m (w64 ((i : Int) + 1)) mk) (f := fun m' i mk => zbW o (zid (zav r o.toNat)) _ m' i mk) hmk (fun m' i' x mk' hx hmk' => by
      have hxm := zaZ (r := r) (a := o) (List.mem_of_getElem? hx)
      have hxl : x.toNat < mk'.length := by omega
      have e1 : gi mk' x = some (mk'.getD x.toNat false) := by
        have := zcB hxl
        rwa [Int.toNat_of_nonneg hxm.1] at this
      have e2 : siM mk' x false = some (mk'.set x.toNat false) := by
        have := zbG hxl false
        rwa [Int.toNat_of_nonneg hxm.1] at this
      refine ⟨?_, by unfold znR; cases (x != o) <;> simp [hmk']⟩
      simp only [zbW, jn, zal hx, zaf hx, cond_true, Option.bind_some, e1, e2, zac (zau hx) (show (zid (zav r o.toNat)).length ≤ maxi by unfold maxi; omega)]
      unfold znR
      cases (x != o) <;> rfl) (fun m' mk' _ => by simp only [zbW, zad, cond_false]), zac (zau ho) (show (zcY r a b).length ≤ maxi by unfold maxi; omega)]
    rfl) (fun m mk _ => by simp only [za4, zad, cond_false])]
  obtain ⟨g1, _⟩ := zhR r (zcY r a b) (zk4 (zav r a.toNat) (zav r b.toNat) r.Commits.length)
  rw [show (zcY r a b).foldl (fun mk u => (zaP r u).foldl (znR u) mk) (zk4 (zav r a.toNat) (zav r b.toNat) r.Commits.length) = zk5 r (zcY r a b) (zk4 (zav r a.toNat) (zav r b.toNat) r.Commits.length) from rfl, zgm (by omega), Option.bind_some, zpu hr ha hb]
theorem zso (x : Repo) : (⟨x.Commits, x.Heads⟩ : Repo) = x := rfl
theorem zhL {r : Repo} (h : RpB r) {a : Int} (ha : upB r.Commits.length a = true) : zaF r a = some (zaA r a.toNat) := by
  obtain ⟨a0, a1⟩ := zap.1 ha
  unfold zaF
  rw [decide_eq_false (by omega), cond_false, zeD a0 a1]
  rfl
section
variable {r : Repo} (h : RpB r) (hr : zae r = true)
include h hr
theorem zml : Gd False r := ⟨h, hr, fun e => e.elim⟩
theorem znn {a b : Int} (ha : upB r.Commits.length a = true) (hb : upB r.Commits.length b = true) : zc3 r a b = some (zhQ r a b) := by
  have hs := (zag hr).1
  have hl := zmr r a b
  unfold zc3 zhQ
  rw [zpv hr ha hb, Option.bind_some]
  cases hz : ((zaT r a b).length : Int) == 0 with
  | true => rfl
  | false =>
    have hne : ((zaT r a b).length : Int) ≠ 0 := by simpa using hz
    have e : w64 (((zaT r a b).length : Int) - 1) = (((zaT r a b).length - 1 : Nat) : Int) := by rw [zai (by omega) (by omega)]; omega
    have hlt : (zaT r a b).length - 1 < (zaT r a b).length := by omega
    have hm : (zaT r a b).getD ((zaT r a b).length - 1) 0 ∈ zaT r a b := by
      rw [zdg (List.getElem?_eq_getElem hlt)]; exact List.getElem_mem hlt
    rw [cond_false, cond_false, e, zik hlt, Option.bind_some, zhL h (zap.2 (zj3 hm)), Option.bind_some]
end
def zrt (r : Repo) (n : Str) (x : Repo) : Prop := x = r ∨ x = zdc ∨ zae x = true
theorem zrt.bulk {r x : Repo} {n : Str} (h : zrt r n x) : Bk.bulk x ≤ Bk.bulk r + 20000 := by
  rcases h with h | h | h
  · rw [h]; omega
  · rw [h]; show 0 + 0 + (0 + 0) ≤ _; omega
  · have := znI h; omega
theorem zrt.fit {r x : Repo} {n : Str} (hf : Bk.fit r) (h : zrt r n x) : Bk.fit x := by
  rcases h with h | h | h
  · rw [h]; exact hf
  · rw [h]; exact ⟨⟨by simp [zdc, maxi], by simp [zdc]⟩, by simp [zdc, maxi], by simp [zdc]⟩
  · exact znK h
theorem zmW (r : Repo) (a b : Int) : zhQ r b a = zhQ r a b := by
  unfold zhQ
  rw [zom]
section
variable {r : Repo} (h : RpB r) (hr : zae r = true) {a b : Int} (ha : upB r.Commits.length a = true) (hb : upB r.Commits.length b = true)
include h hr ha hb
end
def zhE (xs : List Str) (l h : Nat) : List Str := (xs.take h).drop l
theorem zhl {xs : List Str} {l h : Nat} (hh : h ≤ xs.length) : (zhE xs l h).length = h - l := by
  unfold zhE
  simp
  omega
theorem zmu {xs : List Str} (ht : zaB xs = true) (l h : Nat) : zaB (zhE xs l h) = true := by
  unfold zaB at *
  simp only [Bool.and_eq_true, Bool.not_eq_true', decide_eq_false_iff_not, List.all_eq_true] at *
  refine ⟨?_, fun x hx => ht.2 x ?_⟩
  · have : (zhE xs l h).length ≤ xs.length := by unfold zhE; simp; omega
    omega
  · exact List.mem_of_mem_take (List.mem_of_mem_drop hx)
def zfl (o b : List Str) : Nat → List Int → Nat → Nat → List Hunk
  | _, [], _, _ => []
  | i, m :: ms, f, k => bif decide (m < 0) then zfl o b (i + 1) ms f k else (bif decide (f < i) || decide ((k : Int) < m) then [⟨(f : Int), zhE o f i, zhE b k m.toNat⟩] else []) ++ zfl o b (i + 1) ms (i + 1) (m.toNat + 1)
def ChH : Int → List Hunk → Prop
  | _, [] => True
  | lo, d :: l => lo ≤ d.At ∧ ChH (d.At + d.Less.length + 1) l
theorem ChH.mono : ∀ {l : List Hunk} {lo lo' : Int}, lo' ≤ lo → ChH lo l → ChH lo' l
  | [], _, _, _, _ => trivial
  | d :: l, _, _, h, ⟨h1, h2⟩ => ⟨Int.le_trans h h1, h2⟩
def zqQ (n : Nat) (d : Hunk) : Prop := zaB d.Less = true ∧ zaB d.More = true ∧ 0 < d.Less.length + d.More.length ∧ 0 ≤ d.At ∧ d.At ≤ n
theorem ziL {o b : List Str} (ho : zaB o = true) (hb : zaB b = true) : ∀ (ms : List Int) (i f k : Nat), i + ms.length = o.length + 1 → f ≤ i → k ≤ b.length + 1 → Asc ((b.length : Int) + 1) (k : Int) ms →
    3 * (zfl o b i ms f k).length ≤ (o.length + 1 - f) + (b.length + 1 - k) ∧ ChH (f : Int) (zfl o b i ms f k) ∧ ∀ d ∈ zfl o b i ms f k, zqQ o.length d
  | [], i, f, k, _, _, _, _ => ⟨by simp [zfl], trivial, fun d hd => by simp [zfl] at hd⟩
  | m :: ms, i, f, k, hi, hf, hk, hA => by
    simp only [List.length_cons] at hi
    unfold zfl
    rcases hA with ⟨h1, h2⟩ | ⟨h1, h2, h3⟩
    · rw [decide_eq_true (show m < 0 by omega), cond_true]
      exact ziL ho hb ms (i + 1) f k (by omega) (by omega) hk h2
    · obtain ⟨n, rfl⟩ := Int.eq_ofNat_of_zero_le (show 0 ≤ m by omega)
      rw [decide_eq_false (show ¬ (n : Int) < 0 by omega), cond_false, Int.toNat_natCast]
      obtain ⟨q1, q2, q3⟩ := ziL ho hb ms (i + 1) (i + 1) (n + 1) (by omega) (by omega) (by omega) (by simpa using h3)
      cases hc : decide (f < i) || decide ((k : Int) < (n : Int)) with
      | false =>
        rw [cond_false, List.nil_append]
        exact ⟨by omega, q2.mono (by omega), q3⟩
      | true =>
        simp only [Bool.or_eq_true, decide_eq_true_eq] at hc
        rw [cond_true, List.singleton_append]
        have l1 : (zhE o f i).length = i - f := zhl (by omega)
        have l2 : (zhE b k n).length = n - k := zhl (by omega)
        refine ⟨by simp only [List.length_cons]; omega, ⟨Int.le_refl _, ?_⟩, fun d hd => ?_⟩
        · show ChH ((f : Int) + ((zhE o f i).length : Int) + 1) _
          exact q2.mono (by rw [l1]; omega)
        · rcases List.mem_cons.1 hd with e | e
          · rw [e]
            exact ⟨zmu ho _ _, zmu hb _ _, by show 0 < (zhE o f i).length + (zhE b k n).length; rw [l1, l2]; omega, by show (0 : Int) ≤ (f : Int); omega, by show (f : Int) ≤ _; omega⟩
          · exact q3 d e
theorem zio {o b : List Str} : ∀ (ms : List Int) (i f k : Nat), (∃ m ∈ ms, 0 ≤ m) → f < i ∨ (∀ m ∈ ms, 0 ≤ m → (k : Int) < m) → zfl o b i ms f k ≠ []
  | [], i, f, k, h, _ => by obtain ⟨m, hm, _⟩ := h; simp at hm
  | m :: ms, i, f, k, h, hc => by
    unfold zfl
    by_cases hm : m < 0
    · rw [decide_eq_true hm, cond_true]
      refine zio ms (i + 1) f k ?_ ?_
      · obtain ⟨x, hx, h0⟩ := h
        rcases List.mem_cons.1 hx with e | e
        · omega
        · exact ⟨x, e, h0⟩
      · rcases hc with hc | hc
        · exact .inl (by omega)
        · exact .inr fun x hx => hc x (List.mem_cons_of_mem _ hx)
    · rw [decide_eq_false hm, cond_false]
      have : (decide (f < i) || decide ((k : Int) < m)) = true := by
        simp only [Bool.or_eq_true, decide_eq_true_eq]
        rcases hc with hc | hc
        · exact .inl hc
        · exact .inr (hc m (by simp) (by omega))
      rw [this]
      simp
theorem zno {hi : Int} : ∀ {l : List Int} {lo : Int}, Asc hi lo l → ∀ m ∈ l, 0 ≤ m → lo ≤ m
  | [], _, _, m, hm, _ => by simp at hm
  | x :: l, lo, h, m, hm, h0 => by
    rcases h with ⟨h1, h2⟩ | ⟨h1, h2, h3⟩
    · rcases List.mem_cons.1 hm with e | e
      · omega
      · exact zno h2 m e h0
    · rcases List.mem_cons.1 hm with e | e
      · omega
      · have := zno h3 m e h0; omega
theorem zmv {o b : List Str} : ∀ (u v : List Str) (i k : Nat), zfl o b i (mtF u v k ++ [((k + v.length : Nat) : Int)]) i k = [] → u = v
  | [], v, i, k, h => by
    rw [zhz, List.nil_append] at h
    unfold zfl at h
    rw [decide_eq_false (by omega), cond_false] at h
    cases v with
    | nil => rfl
    | cons y ys =>
      exfalso
      rw [show (decide (i < i) || decide ((k : Int) < ((k + (y :: ys).length : Nat) : Int))) = true by simp only [Bool.or_eq_true, decide_eq_true_eq, List.length_cons]; exact .inr (by omega)] at h
      simp at h
  | x :: xs, [], i, k, h => by
    exfalso
    rw [zgI, List.cons_append] at h
    unfold zfl at h
    rw [show decide ((-1 : Int) < 0) = true from rfl, cond_true] at h
    exact zio _ _ _ _ ⟨((k + ([] : List Str).length : Nat) : Int), by simp, by omega⟩ (.inl (by omega)) h
  | x :: xs, y :: ys, i, k, h => by
    rw [zgc] at h
    split at h
    · rename_i he
      have e : x = y := by simpa using he
      rw [List.cons_append] at h
      unfold zfl at h
      rw [decide_eq_false (by omega), cond_false, show (decide (i < i) || decide ((k : Int) < (k : Int))) = false by simp, cond_false, List.nil_append, Int.toNat_natCast] at h
      rw [e, zmv xs ys (i + 1) (k + 1) (by rw [show k + 1 + ys.length = k + (y :: ys).length by simp only [List.length_cons]; omega]; exact h)]
    · exfalso
      split at h
      · rw [List.cons_append] at h
        unfold zfl at h
        rw [show decide ((-1 : Int) < 0) = true from rfl, cond_true] at h
        exact zio _ _ _ _ ⟨((k + (y :: ys).length : Nat) : Int), by simp, by omega⟩ (.inl (by omega)) h
      · refine zio _ _ _ _ ⟨((k + (y :: ys).length : Nat) : Int), by simp, by omega⟩ (.inr fun m hm h0 => ?_) h
        rcases List.mem_append.1 hm with e | e
        · have := zno (zgd _ (x :: xs) ys (k + 1) (Nat.le_refl _)).1 m e h0
          omega
        · rw [List.mem_singleton] at e
          simp only [List.length_cons] at e
          omega
def zj6 (o b : List Str) : List Hunk := zfl o b 0 (mt2 o b ++ [(b.length : Int)]) 0 0
theorem znp {o b : List Str} (ho : zaB o = true) (hb : zaB b = true) : (zj6 o b).length ≤ 7 ∧ ChH 0 (zj6 o b) ∧ (∀ d ∈ zj6 o b, zqQ o.length d) ∧ (zj6 o b = [] → o = b) := by
  have lo := zar ho
  have lb := zar hb
  have ha := zfD o b
  obtain ⟨q1, q2, q3⟩ := ziL ho hb (mt2 o b ++ [(b.length : Int)]) 0 0 0 (by simp [ha.2]) (Nat.le_refl _) (by omega) (Asc.snoc (by omega) (by simp) ha.1)
  refine ⟨?_, q2, q3, fun h => zmv o b 0 0 (by simpa [zj6, mt2] using h)⟩
  unfold zj6
  omega
theorem ziq {p : Str} (h : zaY p = true) : p ≠ [] := by
  intro e
  rw [e] at h
  revert h
  decide
def toB (out : List Change) (p : Str) : Bool := out.any fun c => c.To == p
def zjy (a b : List File) (text : List Str) (out : List Change) : Str := match b.find? (fun g => (!(getT a g.Path).2 && !toB out g.Path) && g.Text == text) with
  | some g => g.Path
  | none => []
def ziM (a b : List File) (out : List Change) (f : File) : List Change :=
  bif (getT b f.Path).2 then (bif (getT b f.Path).1 == f.Text then out else out ++ [⟨3, f.Path, [], [], zj6 f.Text (getT b f.Path).1⟩])
  else bif zjy a b f.Text out != [] then out ++ [⟨4, f.Path, zjy a b f.Text out, [], []⟩] else out ++ [⟨2, f.Path, [], f.Text, []⟩]
def ofA (a b : List File) : List Change := a.foldl (ziM a b) []
def zoR (a b : List File) (g : File) : Bool := !(getT a g.Path).2 && !toB (ofA a b) g.Path
def zrv (g : File) : Change := ⟨1, g.Path, [], g.Text, []⟩
def ofB (a b : List File) : List Change := ofA a b ++ (b.filter (zoR a b)).map zrv
def VC (c : Change) : Prop := zaY c.Path = true ∧
  ((c.Kind = 3 ∧ c.To = [] ∧ c.Text = [] ∧ c.Patch ≠ [] ∧ c.Patch.length ≤ 7 ∧ ChH 0 c.Patch ∧ ∀ d ∈ c.Patch, zqQ 10 d) ∨
   (c.Kind = 4 ∧ zaY c.To = true ∧ c.To ≠ c.Path ∧ c.Text = [] ∧ c.Patch = []) ∨
   ((c.Kind = 1 ∨ c.Kind = 2) ∧ c.To = [] ∧ zaB c.Text = true ∧ c.Patch = []))
def RC (c d : Change) : Prop := c.Path ≠ d.Path ∧ c.To ≠ d.Path ∧ (d.To ≠ [] → c.Path ≠ d.To ∧ c.To ≠ d.To)
section
variable {a b : List File} (ta : zaJ a = true) (tb : zaJ b = true)
structure InvC (a b pre : List File) (out : List Change) : Prop where
  len : out.length ≤ pre.length
  ok : ∀ c ∈ out, VC c
  inA : ∀ c ∈ out, ∃ f ∈ pre, f.Path = c.Path
  to : ∀ c ∈ out, c.To ≠ [] → (getT a c.To).2 = false ∧ (getT b c.To).2 = true
  diff : ∀ c ∈ out, getT a c.Path ≠ getT b c.Path
  pw : out.Pairwise RC
  all : ∀ f ∈ pre, getT a f.Path ≠ getT b f.Path → ∃ c ∈ out, c.Path = f.Path
theorem zqR {text : List Str} {out : List Change} (h : zjy a b text out ≠ []) : ∃ g ∈ b, g.Path = zjy a b text out ∧ (getT a g.Path).2 = false ∧ toB out g.Path = false := by
  unfold zjy at *
  cases hf : b.find? (fun g => (!(getT a g.Path).2 && !toB out g.Path) && g.Text == text) with
  | none => rw [hf] at h; exact absurd rfl h
  | some g =>
    have := List.find?_some hf
    simp only [Bool.and_eq_true, Bool.not_eq_true'] at this
    exact ⟨g, List.mem_of_find?_eq_some hf, rfl, this.1.1, this.1.2⟩
include ta tb
theorem zlD {t : List File} (tt : zaJ t = true) {f : File} (hf : f ∈ t) : getT t f.Path = (f.Text, true) := zqO (zkw tt) hf
theorem zj7 {pre suf : List File} {f : File} {out : List Change} (h : InvC a b pre out) (he : pre ++ f :: suf = a) {c : Change} (hp : c.Path = f.Path) (hv : VC c) (hd : getT a f.Path ≠ getT b f.Path) (hto : c.To ≠ [] → (getT a c.To).2 = false ∧ (getT b c.To).2 = true ∧ toB out c.To = false) : InvC a b (pre ++ [f]) (out ++ [c]) := by
  have hfa : f ∈ a := by rw [← he]; simp
  have hpw := zkw ta
  rw [← he] at hpw
  have hlt : ∀ g ∈ pre, g.Path ≠ f.Path := fun g hg e => by
    have := (List.pairwise_append.1 hpw).2.2 g hg f (by simp)
    rw [e] at this
    exact zan _ this
  have hfp := zbB ta hfa
  have hat := zlD ta tb ta hfa
  refine ⟨by simp; exact h.len, fun x hx => ?_, fun x hx => ?_, fun x hx => ?_, fun x hx => ?_, ?_, fun g hg hgd => ?_⟩
  · rcases List.mem_append.1 hx with e | e
    · exact h.ok x e
    · rw [List.mem_singleton.1 e]; exact hv
  · rcases List.mem_append.1 hx with e | e
    · obtain ⟨g, hg, e2⟩ := h.inA x e
      exact ⟨g, by simp [hg], e2⟩
    · rw [List.mem_singleton.1 e]; exact ⟨f, by simp, hp.symm⟩
  · rcases List.mem_append.1 hx with e | e
    · exact h.to x e
    · rw [List.mem_singleton.1 e]; exact fun h0 => ⟨(hto h0).1, (hto h0).2.1⟩
  · rcases List.mem_append.1 hx with e | e
    · exact h.diff x e
    · rw [List.mem_singleton.1 e, hp]; exact hd
  · refine List.pairwise_append.2 ⟨h.pw, by simp, fun x hx y hy => ?_⟩
    rw [List.mem_singleton.1 hy]
    obtain ⟨g, hg, e2⟩ := h.inA x hx
    have hga : g ∈ a := by rw [← he]; simp [hg]
    have hgt := zlD ta tb ta hga
    refine ⟨by rw [← e2, hp]; exact hlt g hg, fun e => ?_, fun h0 => ⟨fun e => ?_, fun e => ?_⟩⟩
    · by_cases hx0 : x.To = []
      · rw [hx0, hp] at e; exact ziq hfp e.symm
      · have := (h.to x hx hx0).1
        rw [e, hp, hat] at this
        cases this
    · have := (hto h0).1
      rw [← e, ← e2, hgt] at this
      cases this
    · have := (hto h0).2.2
      unfold toB at this
      have h2 := List.any_eq_false.1 this x hx
      rw [e] at h2
      simp at h2
  · rcases List.mem_append.1 hg with e | e
    · obtain ⟨x, hx, e2⟩ := h.all g e hgd
      exact ⟨x, by simp [hx], e2⟩
    · rw [List.mem_singleton.1 e]; exact ⟨c, by simp, hp⟩
theorem zpw {pre : List File} {f : File} {out : List Change} (h : InvC a b pre out) (hd : getT a f.Path = getT b f.Path) : InvC a b (pre ++ [f]) out := by
  refine ⟨Nat.le_trans h.len (by simp), h.ok, fun x hx => ?_, h.to, h.diff, h.pw, fun g hg hgd => ?_⟩
  · obtain ⟨g, hg, e2⟩ := h.inA x hx
    exact ⟨g, by simp [hg], e2⟩
  · rcases List.mem_append.1 hg with e | e
    · exact h.all g e hgd
    · rw [List.mem_singleton.1 e] at hgd; exact absurd hd hgd
theorem zpx {pre suf : List File} {f : File} {out : List Change} (h : InvC a b pre out) (he : pre ++ f :: suf = a) : InvC a b (pre ++ [f]) (ziM a b out f) := by
  have hfa : f ∈ a := by rw [← he]; simp
  have hfp := zbB ta hfa
  have hft := zam ta f hfa
  have hat := zlD ta tb ta hfa
  unfold ziM
  cases hb : (getT b f.Path).2 with
  | true =>
    rw [cond_true]
    have hbt := zbN (zam tb) f.Path
    cases hs : (getT b f.Path).1 == f.Text with
    | true =>
      have e1 : (getT b f.Path).1 = f.Text := by simpa using hs
      exact zpw ta tb h (by rw [hat]; exact (Prod.ext e1 hb).symm)
    | false =>
      have e1 : (getT b f.Path).1 ≠ f.Text := fun e => by rw [e] at hs; simp at hs
      obtain ⟨d1, d2, d3, d4⟩ := znp hft hbt
      have hl := zar hft
      refine zj7 ta tb h he rfl ⟨hfp, .inl ⟨rfl, rfl, rfl, fun e => e1 (d4 e).symm, d1, d2, fun d hd => ?_⟩⟩ (fun e => e1 (by rw [← e, hat])) (fun h0 => absurd rfl h0)
      obtain ⟨x1, x2, x3, x4, x5⟩ := d3 d hd
      exact ⟨x1, x2, x3, x4, by omega⟩
  | false =>
    rw [cond_false]
    have hne : getT a f.Path ≠ getT b f.Path := fun e => by rw [← e, hat] at hb; cases hb
    cases ht : zjy a b f.Text out != [] with
    | true =>
      have ht' : zjy a b f.Text out ≠ [] := by simpa using ht
      obtain ⟨g, hg, e1, e2, e3⟩ := zqR ht'
      rw [e1] at e2 e3
      have hgp := zbB tb hg
      have hgt := zlD ta tb tb hg
      rw [e1] at hgp hgt
      have hnp : zjy a b f.Text out ≠ f.Path := fun e => by rw [e, hat] at e2; cases e2
      exact zj7 ta tb h he rfl ⟨hfp, .inr (.inl ⟨rfl, hgp, hnp, rfl, rfl⟩)⟩ hne (fun _ => ⟨e2, by show (getT b (zjy a b f.Text out)).2 = true; rw [hgt], e3⟩)
    | false => exact zj7 ta tb h he rfl ⟨hfp, .inr (.inr ⟨.inr rfl, rfl, hft, rfl⟩)⟩ hne (fun h0 => absurd rfl h0)
theorem zmw : ∀ (suf pre : List File) (out : List Change), pre ++ suf = a → InvC a b pre out → InvC a b a (suf.foldl (ziM a b) out)
  | [], pre, out, he, h => by rw [List.append_nil] at he; rw [← he] at h ⊢; exact h
  | f :: suf, pre, out, he, h => zmw suf (pre ++ [f]) _ (by rw [List.append_assoc]; exact he) (zpx ta tb h he)
theorem zmx : InvC a b a (ofA a b) := zmw ta tb a [] [] rfl ⟨by simp, by simp, by simp, by simp, by simp, .nil, by simp⟩
theorem zir : (ofB a b).length ≤ 16 ∧ (∀ c ∈ ofB a b, VC c) ∧ (ofB a b).Pairwise RC := by
  have h := zmx ta tb
  have la := zaG ta
  have lb := zaG tb
  have hl := h.len
  have hf : ∀ c ∈ (b.filter (zoR a b)).map zrv, ∃ g ∈ b, zoR a b g = true ∧ c = zrv g := fun c hc => by
    obtain ⟨g, hg, e⟩ := List.mem_map.1 hc
    obtain ⟨h1, h2⟩ := List.mem_filter.1 hg
    exact ⟨g, h1, h2, e.symm⟩
  refine ⟨?_, fun c hc => ?_, ?_⟩
  · unfold ofB
    have := List.length_filter_le (zoR a b) b
    simp only [List.length_append, List.length_map]
    omega
  · rcases List.mem_append.1 hc with e | e
    · exact h.ok c e
    · obtain ⟨g, hg, _, e2⟩ := hf c e
      rw [e2]
      exact ⟨zbB tb hg, .inr (.inr ⟨.inl rfl, rfl, zam tb g hg, rfl⟩)⟩
  · refine List.pairwise_append.2 ⟨h.pw, ?_, fun c hc d hd => ?_⟩
    · refine List.pairwise_map.2 ((zkw tb).sublist List.filter_sublist |>.imp_of_mem ?_)
      intro x y hx hy hlt
      refine ⟨fun e => ?_, fun e => ?_, fun h0 => absurd rfl h0⟩
      · have e' : x.Path = y.Path := e
        rw [e'] at hlt; exact zan _ hlt
      · have e' : [] = y.Path := e
        exact ziq (zbB tb (List.mem_filter.1 hy).1) e'.symm
    · obtain ⟨g, hg, hadd, e2⟩ := hf d hd
      rw [e2]
      unfold zoR at hadd
      simp only [Bool.and_eq_true, Bool.not_eq_true'] at hadd
      refine ⟨fun e => ?_, fun e => ?_, fun h0 => absurd rfl h0⟩
      · obtain ⟨f, hfa, e3⟩ := h.inA c hc
        have := zlD ta tb ta hfa
        have e' : c.Path = g.Path := e
        rw [e3, e'] at this
        rw [this] at hadd
        cases hadd.1
      · have h2 := hadd.2
        unfold toB at h2
        have h3 := List.any_eq_false.1 h2 c hc
        have e' : c.To = g.Path := e
        rw [e'] at h3
        simp at h3
end
def zny (out : List Str) (c : Change) : List Str := bif c.To != [] then zgQ (zgQ out c.Path) c.To else zgQ out c.Path
def pathsC (l : List Change) : List Str := l.foldl zny []
theorem zoV {out : List Str} (h : Asd out) (c : Change) : Asd (zny out c) := by
  unfold zny
  cases c.To != [] with
  | true => exact zdx _ _
  | false => exact zdx _ _
theorem zqS {out : List Str} {c : Change} {x : Str} : x ∈ zny out c ↔ x ∈ out ∨ (x = c.Path ∨ (c.To ≠ [] ∧ x = c.To)) := by
  unfold zny
  cases h : c.To != [] with
  | true =>
    have h' : c.To ≠ [] := by simpa using h
    rw [cond_true, insS_mem, insS_mem]
    constructor
    · rintro ((h1 | h1) | h1)
      · exact .inl h1
      · exact .inr (.inl h1)
      · exact .inr (.inr ⟨h', h1⟩)
    · rintro (h1 | h1 | ⟨_, h1⟩)
      · exact .inl (.inl h1)
      · exact .inl (.inr h1)
      · exact .inr h1
  | false =>
    have h' : c.To = [] := by simpa using h
    rw [cond_false, insS_mem]
    constructor
    · rintro (h1 | h1)
      · exact .inl h1
      · exact .inr (.inl h1)
    · rintro (h1 | h1 | ⟨h0, _⟩)
      · exact .inl h1
      · exact .inr h1
      · exact absurd h' h0
theorem zmy : ∀ (l : List Change) (out : List Str) (x : Str), x ∈ l.foldl zny out ↔ x ∈ out ∨ ∃ c ∈ l, x = c.Path ∨ (c.To ≠ [] ∧ x = c.To)
  | [], out, x => by simp
  | c :: l, out, x => by
    rw [List.foldl_cons, zmy l, zqS]
    constructor
    · rintro ((h | h) | ⟨d, hd, h⟩)
      · exact .inl h
      · exact .inr ⟨c, by simp, h⟩
      · exact .inr ⟨d, by simp [hd], h⟩
    · rintro (h | ⟨d, hd, h⟩)
      · exact .inl (.inl h)
      · rcases List.mem_cons.1 hd with e | e
        · rw [e] at h; exact .inl (.inr h)
        · exact .inr ⟨d, e, h⟩
theorem zj8 : ∀ (l : List Change) (out : List Str), (l.foldl zny out).length ≤ out.length + 2 * l.length
  | [], out => by simp
  | c :: l, out => by
    have h1 := zj8 l (zny out c)
    have h2 : (zny out c).length ≤ out.length + 2 := by
      unfold zny
      have := zdW out c.Path
      have := zdW (zgQ out c.Path) c.To
      cases c.To != [] <;> simp only [cond_true, cond_false] <;> omega
    simp only [List.foldl_cons, List.length_cons]
    omega
theorem zjK {l : List Change} {x : Str} : x ∈ pathsC l ↔ ∃ c ∈ l, x = c.Path ∨ (c.To ≠ [] ∧ x = c.To) := by
  unfold pathsC
  rw [zmy]
  simp
theorem zmz {a b : List File} (ta : zaJ a = true) (tb : zaJ b = true) {x : Str} (h : x ∈ pathsC (ofB a b)) : zaY x = true := by
  obtain ⟨c, hc, hx⟩ := zjK.1 h
  obtain ⟨h1, h2⟩ := (zir ta tb).2.1 c hc
  rcases hx with rfl | ⟨h0, rfl⟩
  · exact h1
  · rcases h2 with h2 | h2 | h2
    · exact absurd h2.2.1 h0
    · exact h2.2.1
    · exact absurd h2.2.1 h0
def zjp (v : Review) (who : Str) : Bool := who == [] || who == v.By || v.Yes.any (fun y => y == who)
def zg1 (w : Str → Str) (v : Review) (out : List Str) (p : Str) : List Str := bif zjp v (w p) then out else zgQ out (w p)
def zk6 (w : Str → Str) (v : Review) (ps : List Str) : List Str := ps.foldl (zg1 w v) []
theorem zpy {w : Str → Str} {v : Review} {out : List Str} {p x : Str} : x ∈ zg1 w v out p ↔ x ∈ out ∨ (w p = x ∧ zjp v x = false) := by
  unfold zg1
  cases h : zjp v (w p) with
  | true =>
    rw [cond_true]
    exact ⟨.inl, fun h1 => h1.elim id fun ⟨e, h2⟩ => by rw [e, h2] at h; cases h⟩
  | false =>
    rw [cond_false, insS_mem]
    constructor
    · rintro (h1 | h1)
      · exact .inl h1
      · exact .inr ⟨h1.symm, by rw [h1]; exact h⟩
    · rintro (h1 | ⟨h1, _⟩)
      · exact .inl h1
      · exact .inr h1.symm
theorem zmA {w : Str → Str} {v : Review} : ∀ (ps : List Str) (out : List Str) (x : Str), x ∈ ps.foldl (zg1 w v) out ↔ x ∈ out ∨ ∃ p ∈ ps, w p = x ∧ zjp v x = false
  | [], out, x => by simp
  | p :: ps, out, x => by
    rw [List.foldl_cons, zmA ps, zpy]
    constructor
    · rintro ((h | h) | ⟨q, hq, h⟩)
      · exact .inl h
      · exact .inr ⟨p, by simp, h⟩
      · exact .inr ⟨q, by simp [hq], h⟩
    · rintro (h | ⟨q, hq, h⟩)
      · exact .inl (.inl h)
      · rcases List.mem_cons.1 hq with e | e
        · rw [e] at h; exact .inl (.inr h)
        · exact .inr ⟨q, e, h⟩
theorem zj9 {w : Str → Str} {v : Review} : ∀ (ps : List Str) (out : List Str), Asd out → Asd (ps.foldl (zg1 w v) out)
  | [], _, h => h
  | p :: ps, out, h => by
    refine zj9 ps _ ?_
    unfold zg1
    cases zjp v (w p) with
    | true => exact h
    | false => exact zdx _ _
theorem zmB {w : Str → Str} {v : Review} : ∀ (ps : List Str) (out : List Str), (ps.foldl (zg1 w v) out).length ≤ out.length + ps.length
  | [], out => by simp
  | p :: ps, out => by
    have h1 := zmB (w := w) (v := v) ps (zg1 w v out p)
    have h2 : (zg1 w v out p).length ≤ out.length + 1 := by
      unfold zg1
      have := zdW out (w p)
      cases zjp v (w p) <;> simp only [cond_true, cond_false] <;> omega
    simp only [List.foldl_cons, List.length_cons]
    omega
theorem zjq {w : Str → Str} {v : Review} {ps : List Str} {x : Str} : x ∈ zk6 w v ps ↔ ∃ p ∈ ps, w p = x ∧ zjp v x = false := by
  unfold zk6
  rw [zmA]
  simp
theorem zpz {w : Str → Str} {v : Review} {ps qs : List Str} (h : ∀ x, x ∈ ps ↔ x ∈ qs) : zk6 w v ps = zk6 w v qs := by
  refine Asd.ext (zj9 ps [] .nil) (zj9 qs [] .nil) fun x => ?_
  rw [zjq, zjq]
  exact ⟨fun ⟨p, hp, e⟩ => ⟨p, (h p).1 hp, e⟩, fun ⟨p, hp, e⟩ => ⟨p, (h p).2 hp, e⟩⟩
theorem zk7 {R α σ : Type} {xs : List α} {g : σ → α → σ} {I : Nat → σ → Prop} {f : Nat → σ → Int → Option R} {Z : σ → Option R}
    (hs : ∀ m (i : Nat) x s, xs[i]? = some x → I i s → f (m + 1) s (i : Int) = f m (g s x) ((i + 1 : Nat) : Int) ∧ I (i + 1) (g s x)) (he : ∀ m s, I xs.length s → f (m + 1) s (xs.length : Int) = Z s) :
    ∀ (k i m : Nat) (s : σ), i + k = xs.length → k < m → I i s → f m s (i : Int) = Z ((xs.drop i).foldl g s) ∧ I xs.length ((xs.drop i).foldl g s)
  | k, i, 0, s, _, hm, _ => by omega
  | 0, i, m + 1, s, hi, _, h => by
    obtain rfl : i = xs.length := by omega
    rw [List.drop_length, List.foldl_nil]
    exact ⟨he m s h, h⟩
  | k + 1, i, m + 1, s, hi, hm, h => by
    have hlt : i < xs.length := by omega
    obtain ⟨e1, e2⟩ := hs m i xs[i] s (List.getElem?_eq_getElem hlt) h
    rw [e1, List.drop_eq_getElem_cons hlt, List.foldl_cons]
    exact zk7 hs he k (i + 1) m _ (by omega) (by omega) e2
theorem zbr {R α σ : Type} {xs : List α} {g : σ → α → σ} {I : Nat → σ → Prop} {f : Nat → σ → Int → Option R} {Z : σ → Option R} {s : σ} (h : I 0 s)
    (hs : ∀ m (i : Nat) x s, xs[i]? = some x → I i s → f (m + 1) s (i : Int) = f m (g s x) ((i + 1 : Nat) : Int) ∧ I (i + 1) (g s x)) (he : ∀ m s, I xs.length s → f (m + 1) s (xs.length : Int) = Z s) : f (xs.length + 1) s 0 = Z (xs.foldl g s) ∧ I xs.length (xs.foldl g s) := by
  have := zk7 hs he xs.length 0 (xs.length + 1) s (by omega) (by omega) h
  rwa [List.drop_zero] at this
theorem zk8 {α : Type} {ps : List α} {i : Nat} {x : α} {ms : List α} (h : ps.drop i = x :: ms) : ps[i]? = some x ∧ ps.drop (i + 1) = ms := by
  have h1 : (ps.drop i)[0]? = some x := by rw [h]; rfl
  rw [List.getElem?_drop, Nat.add_zero] at h1
  refine ⟨h1, ?_⟩
  rw [← List.drop_drop, h]
  rfl
theorem zmC {α : Type} {ps : List α} {i : Nat} (hi : i ≤ ps.length) (h : ps.drop i = []) : i = ps.length := by
  have := List.drop_eq_nil_iff.1 h
  omega
section
variable {o b : List Str} (ho : o.length ≤ 1000) (hb : b.length ≤ 1000) {ps : List Int} (hps : ps.length = o.length + 1)
include ho hb hps
theorem znS : ∀ (ms : List Int) (i m f k : Nat) (out : List Hunk), ps.drop i = ms → i ≤ ps.length → ms.length < m → f ≤ i → Asc ((b.length : Int) + 1) (k : Int) ms → out.length + ms.length ≤ 5000 →
    ze4 o b ps (fun c _ _ _ => some c) m out (f : Int) (k : Int) (i : Int) = some (out ++ zfl o b i ms f k)
  | _, _, 0, _, _, _, _, _, hm, _, _, _ => by omega
  | [], i, m + 1, f, k, out, hd, hi, _, _, _, _ => by
    obtain rfl := zmC hi hd
    simp only [ze4, zad, cond_false, zfl, List.append_nil]
  | x :: ms, i, m + 1, f, k, out, hd, hi, hm, hf, hA, hl => by
    obtain ⟨hx, hd'⟩ := zk8 hd
    have hlt := zau hx
    simp only [List.length_cons] at hm hl
    have ih := fun f k out hf hA hl => znS ms (i + 1) m f k out hd' (by omega) (by omega) hf hA hl
    unfold zfl
    simp only [ze4, jn, zal hx, zaf hx, cond_true, Option.bind_some, zac hlt (show ps.length ≤ maxi by unfold maxi; omega)]
    rcases hA with ⟨h1, h2⟩ | ⟨h1, h2, h3⟩
    · rw [decide_eq_true (show x < 0 by omega), cond_true, cond_true]
      exact ih f k out (by omega) h2 (by omega)
    · obtain ⟨n, rfl⟩ := Int.eq_ofNat_of_zero_le (show 0 ≤ x by omega)
      have e0 : w64 ((n : Int) + 1) = ((n + 1 : Nat) : Int) := zac (show n < b.length + 1 by omega) (by unfold maxi; omega)
      have e1 : decide ((f : Int) < (i : Int)) = decide (f < i) := decide_eq_decide.2 (by omega)
      have s1 : slM o (f : Int) (i : Int) = some (zhE o f i) := zgn (by omega) (by omega) (by omega)
      have s2 : slM b (k : Int) (n : Int) = some (zhE b k n) := zgn (by omega) (by omega) (by omega)
      have l1 : (zhE o f i).length = i - f := zhl (by omega)
      have l2 : (zhE b k n).length = n - k := zhl (by omega)
      rw [decide_eq_false (show ¬ (n : Int) < 0 by omega), cond_false, cond_false, e0, e1, Int.toNat_natCast]
      have g1 : ∀ (h : Hunk), apM out [h] = some (out ++ [h]) := fun h => ap1 (by omega)
      have ia := ih (i + 1) (n + 1) (out ++ [⟨(f : Int), zhE o f i, zhE b k n⟩]) (by omega) (by simpa using h3) (by simp; omega)
      have ib := ih (i + 1) (n + 1) out (by omega) (by simpa using h3) (by omega)
      cases decide (f < i) with
      | true =>
        simp only [cond_true, Bool.true_or, s1, s2, Option.bind_some, apN (show (zhE o f i).length ≤ 1048576 by omega), apN (show (zhE b k n).length ≤ 1048576 by omega), g1]
        rw [ia, List.append_assoc]
      | false =>
        cases decide ((k : Int) < (n : Int)) with
        | true =>
          simp only [cond_true, cond_false, Bool.or_true, s1, s2, Option.bind_some, apN (show (zhE o f i).length ≤ 1048576 by omega), apN (show (zhE b k n).length ≤ 1048576 by omega), g1]
          rw [ia, List.append_assoc]
        | false => simp only [cond_false, Bool.or_self, List.nil_append]; exact ib
theorem znT : ∀ (ms : List Int) (i m f k : Nat) (out : List Hunk), ps.drop i = ms → i ≤ ps.length → ms.length < m → f ≤ i → Asc ((b.length : Int) + 1) (k : Int) ms → out.length + ms.length ≤ 5000 →
    ze8 o b ps (fun c _ _ _ => some c) m out (f : Int) (k : Int) (i : Int) = some (out ++ zfl o b i ms f k)
  | _, _, 0, _, _, _, _, _, hm, _, _, _ => by omega
  | [], i, m + 1, f, k, out, hd, hi, _, _, _, _ => by
    obtain rfl := zmC hi hd
    simp only [ze8, zad, cond_false, zfl, List.append_nil]
  | x :: ms, i, m + 1, f, k, out, hd, hi, hm, hf, hA, hl => by
    obtain ⟨hx, hd'⟩ := zk8 hd
    have hlt := zau hx
    simp only [List.length_cons] at hm hl
    have ih := fun f k out hf hA hl => znT ms (i + 1) m f k out hd' (by omega) (by omega) hf hA hl
    unfold zfl
    simp only [ze8, jn, zal hx, zaf hx, cond_true, Option.bind_some, zac hlt (show ps.length ≤ maxi by unfold maxi; omega)]
    rcases hA with ⟨h1, h2⟩ | ⟨h1, h2, h3⟩
    · rw [decide_eq_true (show x < 0 by omega), cond_true, cond_true]
      exact ih f k out (by omega) h2 (by omega)
    · obtain ⟨n, rfl⟩ := Int.eq_ofNat_of_zero_le (show 0 ≤ x by omega)
      have e0 : w64 ((n : Int) + 1) = ((n + 1 : Nat) : Int) := zac (show n < b.length + 1 by omega) (by unfold maxi; omega)
      have e1 : decide ((f : Int) < (i : Int)) = decide (f < i) := decide_eq_decide.2 (by omega)
      have s1 : slM o (f : Int) (i : Int) = some (zhE o f i) := zgn (by omega) (by omega) (by omega)
      have s2 : slM b (k : Int) (n : Int) = some (zhE b k n) := zgn (by omega) (by omega) (by omega)
      have l1 : (zhE o f i).length = i - f := zhl (by omega)
      have l2 : (zhE b k n).length = n - k := zhl (by omega)
      rw [decide_eq_false (show ¬ (n : Int) < 0 by omega), cond_false, cond_false, e0, e1, Int.toNat_natCast]
      have g1 : ∀ (h : Hunk), apM out [h] = some (out ++ [h]) := fun h => ap1 (by omega)
      have ia := ih (i + 1) (n + 1) (out ++ [⟨(f : Int), zhE o f i, zhE b k n⟩]) (by omega) (by simpa using h3) (by simp; omega)
      have ib := ih (i + 1) (n + 1) out (by omega) (by simpa using h3) (by omega)
      cases decide (f < i) with
      | true =>
        simp only [cond_true, Bool.true_or, s1, s2, Option.bind_some, za8 (show (zhE o f i).length ≤ 1048576 by omega), za8 (show (zhE b k n).length ≤ 1048576 by omega), g1]
        rw [ia, List.append_assoc]
      | false =>
        cases decide ((k : Int) < (n : Int)) with
        | true =>
          simp only [cond_true, cond_false, Bool.or_true, s1, s2, Option.bind_some, za8 (show (zhE o f i).length ≤ 1048576 by omega), za8 (show (zhE b k n).length ≤ 1048576 by omega), g1]
          rw [ia, List.append_assoc]
        | false => simp only [cond_false, Bool.or_self, List.nil_append]; exact ib
end
section
variable {o b : List Str} (ho : o.length ≤ 1000) (hb : b.length ≤ 1000)
include ho hb
theorem zqT : zjt o b = some (zj6 o b) := by
  obtain ⟨h1, h2⟩ := zfD o b
  unfold zjt zj6
  rw [zjb ho hb, Option.bind_some, zm7 (by omega), Option.bind_some]
  simp only [jn, zak]
  have := znS ho hb (ps := mt2 o b ++ [(b.length : Int)]) (by simp [h2]) (mt2 o b ++ [(b.length : Int)]) 0 ((mt2 o b ++ [(b.length : Int)]).length + 1) 0 0 [] rfl (by omega) (by omega) (by omega) (Asc.snoc (by omega) (by simp) h1) (by simp [h2]; omega)
  exact this
theorem zqU : zjw o b = some (zj6 o b) := by
  obtain ⟨h1, h2⟩ := zfD o b
  unfold zjw zj6
  rw [zi9 ho hb, Option.bind_some, zm7 (by omega), Option.bind_some]
  simp only [jn, zak]
  have := znT ho hb (ps := mt2 o b ++ [(b.length : Int)]) (by simp [h2]) (mt2 o b ++ [(b.length : Int)]) 0 ((mt2 o b ++ [(b.length : Int)]).length + 1) 0 0 [] rfl (by omega) (by omega) (by omega) (Asc.snoc (by omega) (by simp) h1) (by simp [h2]; omega)
  exact this
end
theorem zrD {xs : List Str} {s : Str} (h : xs.length ≤ maxi) : ∀ (k i m : Nat) (c : Int), i + k = xs.length → k < m → ∃ z, zaC xs s (fun _ _ => some (-1)) m c (i : Int) = some z ∧ decide (0 ≤ z) = (xs.drop i).any fun y => y == s
  | k, i, 0, _, _, hm => by omega
  | 0, i, m + 1, c, hi, _ => by
    obtain rfl : i = xs.length := by omega
    refine ⟨-1, by simp only [zaC, zad, cond_false], by simp⟩
  | k + 1, i, m + 1, c, hi, hm => by
    have hlt : i < xs.length := by omega
    have hx : xs[i]? = some xs[i] := List.getElem?_eq_getElem hlt
    simp only [zaC, zal hx, zaf hx, cond_true, Option.bind_some, zac hlt h]
    rw [List.drop_eq_getElem_cons hlt, List.any_cons, show (s == xs[i]) = (xs[i] == s) by rw [Bool.eq_iff_iff, beq_iff_eq, beq_iff_eq]; exact eq_comm]
    cases xs[i] == s with
    | true => exact ⟨(i : Int), rfl, by simp⟩
    | false => exact zrD h k (i + 1) m c (by omega) (by omega)
theorem zg2 {xs : List Str} {s : Str} (h : xs.length ≤ maxi) : zaH xs s = some (xs.any fun y => y == s) := by
  unfold zaH zbd
  simp only [jn, zak]
  obtain ⟨z, h1, h2⟩ := zrD (s := s) h xs.length 0 (xs.length + 1) 0 (by omega) (by omega)
  have h1' : zaC xs s (fun _ _ => some (-1)) (xs.length + 1) 0 0 = some z := h1
  rw [h1', Option.bind_some, h2, List.drop_zero]
def zjz (a : List File) (text : List Str) (out : List Change) (g : File) : Bool := (!(getT a g.Path).2 && !toB out g.Path) && g.Text == text
theorem zqV {a b : List File} {text : List Str} {out : List Change} (h : b.find? (zjz a text out) = none) : zjy a b text out = [] := by
  unfold zjy zjz at *
  rw [h]
theorem zqW {a b : List File} {text : List Str} {out : List Change} {g : File} (h : b.find? (zjz a text out) = some g) : zjy a b text out = g.Path := by
  unfold zjy zjz at *
  rw [h]
theorem zly (out : List Change) (c : Change) (p : Str) : toB (out ++ [c]) p = (toB out p || c.To == p) := by simp [toB]
section
variable {a b : List File} (ha : TB a) (hb : TB b) (ta : zaJ a = true) (tb : zaJ b = true)
include ha hb ta tb
theorem zk9 {text : List Str} {out : List Change} (ho : out.length ≤ 1000) (d : Str) : ∀ (k i m : Nat), i + k = b.length → k < m →
    zcQ a b text out (fun _ _ => some ([] : Str)) m d (i : Int) = some (match (b.drop i).find? (zjz a text out) with | some g => g.Path | none => [])
  | k, i, 0, _, hm => by omega
  | 0, i, m + 1, hi, _ => by
    obtain rfl : i = b.length := by omega
    simp only [zcQ, zad, cond_false, List.drop_length, List.find?_nil]
  | k + 1, i, m + 1, hi, hm => by
    have hlt : i < b.length := by omega
    have hx : b[i]? = some b[i] := List.getElem?_eq_getElem hlt
    have hm' := zam tb b[i] (List.getElem_mem hlt)
    have htl := zar hm'
    have ih := zk9 (text := text) ho d k (i + 1) m (by omega) (by omega)
    have inner : ∀ (Z : Bool → Int → Option Str) (hZ : ∀ q z z', Z q z = Z q z'), zbD b out (i : Int) Z (((out.length : Int) - 0).toNat + 1) true 0 = Z (!toB out b[i].Path) 0 := fun Z hZ => by
      rw [zak]
      have := (zbr (xs := out) (g := fun d c => d && (c.To != b[i].Path)) (I := fun _ _ => True) (Z := fun s => Z s 0) (f := fun m s i' => zbD b out (i : Int) Z m s i') (s := true) trivial (fun m j x s hxj _ => by
        refine ⟨?_, trivial⟩
        simp only [zbD, zal hxj, zaf hxj, zaf hx, cond_true, Option.bind_some, zac (zau hxj) (show out.length ≤ maxi by unfold maxi; omega)]
        cases s <;> rfl) (fun m s _ => by simp only [zbD, zad, cond_false]; exact hZ _ _ _)).1
      rw [this, zms, Bool.true_and]
      congr 1
      unfold toB
      rw [List.not_any_eq_all_not]
      rfl
    rw [List.drop_eq_getElem_cons hlt, List.find?_cons]
    simp only [zcQ, zal hx, zaf hx, cond_true, Option.bind_some, jn, zgL ha, zgj (zas (show b[i].Text.length ≤ 1048576 by omega)), zac hlt hb.maxi]
    rw [inner _ (fun q z z' => rfl)]
    unfold zjz at ih ⊢
    cases (getT a b[i].Path).2 <;> cases toB out b[i].Path <;> cases b[i].Text == text <;> simp only [Bool.not_true, Bool.not_false, Bool.and_true, Bool.and_false, Bool.and_self, cond_true, cond_false] <;> first | exact ih | rfl
theorem zon {text : List Str} {out : List Change} (ho : out.length ≤ 1000) : zfA a b text out = some (zjy a b text out) := by
  unfold zfA
  simp only [jn, zak]
  have := zk9 ha hb ta tb (text := text) ho [] b.length 0 (b.length + 1) (by omega) (by omega)
  rw [List.drop_zero] at this
  refine this.trans ?_
  unfold zjy zjz
  rfl
theorem zmD (out : List Change) (f : File) : (ziM a b out f).length ≤ out.length + 1 := by
  unfold ziM
  cases (getT b f.Path).2 <;> cases (getT b f.Path).1 == f.Text <;> cases zjy a b f.Text out != [] <;> simp
theorem zlz (P : File → Bool) : ∀ (gs : List File) (s : List Change), gs.foldl (fun s g => bif P g then s ++ [zrv g] else s) s = s ++ (gs.filter P).map zrv
  | [], s => by simp
  | g :: gs, s => by
    rw [List.foldl_cons, zlz P gs, List.filter_cons]
    cases P g <;> simp
theorem zt6 : zhG a b = some (ofB a b) := by
  have sa := zaG ta
  have sb := zaG tb
  have hl := (zmx ta tb).len
  unfold zhG
  simp only [jn, zak]
  have e1 := (zbr (xs := a) (g := ziM a b) (I := fun i (s : List Change) => s.length ≤ i) (Z := fun s => zcA a b s (fun b f => some b) (b.length + 1) s 0) (f := fun m s i => ze5 a b (fun s _ => zcA a b s (fun b f => some b) (b.length + 1) s 0) m s i) (s := []) (by simp) (fun m i x s hx hI => by
    have hi := zau hx
    have hxa := List.mem_of_getElem? hx
    have hxt := zar (zam ta x hxa)
    have hgt := zar (zbN (zam tb) x.Path)
    have g1 : ∀ (h : Change), apM s [h] = some (s ++ [h]) := fun h => ap1 (by omega)
    refine ⟨?_, by have := zmD ha hb ta tb s x; omega⟩
    simp only [ze5, jn, zal hx, zaf hx, cond_true, Option.bind_some, zac hi ha.maxi, zgL hb, zgj (zas (show (getT b x.Path).1.length ≤ 1048576 by omega)), zqT (show x.Text.length ≤ 1000 by omega) (show (getT b x.Path).1.length ≤ 1000 by omega), zon ha hb ta tb (show s.length ≤ 1000 by omega), apN (show x.Text.length ≤ 1048576 by omega), g1]
    unfold ziM
    cases (getT b x.Path).2 with
    | true =>
      cases (getT b x.Path).1 == x.Text <;> rfl
    | false => cases zjy a b x.Text s != [] <;> rfl) (fun m s _ => by simp only [ze5, zad, cond_false])).1
  refine e1.trans ?_
  show zcA a b (ofA a b) (fun b f => some b) (b.length + 1) (ofA a b) 0 = _
  have e2 := (zbr (xs := b) (g := fun s g => bif zoR a b g then s ++ [zrv g] else s) (I := fun i (s : List Change) => ∃ e, s = ofA a b ++ e ∧ e.length ≤ i) (Z := fun s => some s) (f := fun m s i => zcA a b (ofA a b) (fun b f => some b) m s i) (s := ofA a b) ⟨[], by simp, by simp⟩ (fun m i x s hx hI => by
    obtain ⟨e, rfl, hel⟩ := hI
    have hi := zau hx
    have hxb := List.mem_of_getElem? hx
    have hxt := zar (zam tb x hxb)
    have g1 : ∀ (h : Change), apM (ofA a b ++ e) [h] = some (ofA a b ++ e ++ [h]) := fun h => ap1 (by simp; omega)
    have inner : ∀ (Z : Bool → Int → Option (List Change)) (hZ : ∀ q z z', Z q z = Z q z'), zdw b (ofA a b) (ofA a b ++ e) (i : Int) Z ((ofA a b).length + 1) false 0 = Z (toB (ofA a b) x.Path) 0 := fun Z hZ => by
      have := (zbr (xs := ofA a b) (g := fun d c => d || (c.To == x.Path)) (I := fun _ _ => True) (Z := fun s => Z s 0) (f := fun m s i' => zdw b (ofA a b) (ofA a b ++ e) (i : Int) Z m s i') (s := false) trivial (fun m j y s hxj _ => by
        refine ⟨?_, trivial⟩
        have hxj2 : (ofA a b ++ e)[j]? = some y := by rw [List.getElem?_append_left (zau hxj)]; exact hxj
        simp only [zdw, zal hxj, zaf hxj2, zaf hx, cond_true, Option.bind_some, zac (zau hxj) (show (ofA a b).length ≤ maxi by unfold maxi; omega)]
        cases s <;> rfl) (fun m s _ => by simp only [zdw, zad, cond_false]; exact hZ _ _ _)).1
      rw [this, zlx, Bool.false_or]
      rfl
    refine ⟨?_, ?_⟩
    · simp only [zcA, jn, zal hx, zaf hx, cond_true, Option.bind_some, zac hi hb.maxi, zgL ha, zak, apN (show x.Text.length ≤ 1048576 by omega), g1]
      rw [inner _ (fun q z z' => rfl)]
      unfold zoR
      cases (getT a x.Path).2 <;> cases toB (ofA a b) x.Path <;> rfl
    · cases zoR a b x with
      | true => exact ⟨e ++ [zrv x], by simp, by simp; omega⟩
      | false => exact ⟨e, rfl, by omega⟩) (fun m s _ => by simp only [zcA, zad, cond_false])).1
  refine e2.trans ?_
  rw [zlz ha hb ta tb]
  rfl
def TgI (out : List Change) (tg : List Str) : Prop := ∀ p, p ≠ [] → (tg.any fun y => y == p) = toB out p
def stepI (a b : List File) (s : List Change × List Str) (f : File) : List Change × List Str := (ziM a b s.1 f, bif (getT b f.Path).2 then s.2 else (bif zjy a b f.Text s.1 != [] then s.2 ++ [zjy a b f.Text s.1] else s.2))
theorem zrE {f : File} (hf : f.Text.length ≤ 1000) {out : List Change} {tg : List Str} (hT : TgI out tg) (hl : tg.length ≤ 1000) {Z : List Str → Int → Str → Str → List Str → List Hunk → Option (List Change)} {h i' : Str} {j' : List Str} {k' : List Hunk} {g' : Int} : ∀ (k i m : Nat), i + k = b.length → k < m →
    zcu a b f Z m tg (i : Int) g' h i' j' k' = (match (b.drop i).find? (zjz a f.Text out) with | some g => Z (tg ++ [g.Path]) 4 f.Path g.Path [] [] | none => Z tg g' h i' j' k')
  | k, i, 0, _, hm => by omega
  | 0, i, m + 1, hi, _ => by
    obtain rfl : i = b.length := by omega
    simp only [zcu, zad, cond_false, List.drop_length, List.find?_nil]
  | k + 1, i, m + 1, hi, hm => by
    have hlt : i < b.length := by omega
    have hx : b[i]? = some b[i] := List.getElem?_eq_getElem hlt
    have hxb := List.getElem_mem hlt
    have htl := zar (zam tb b[i] hxb)
    have hpn := ziq (zbB tb hxb)
    have ih := zrE hf hT hl (Z := Z) (h := h) (i' := i') (j' := j') (k' := k') (g' := g') k (i + 1) m (by omega) (by omega)
    rw [List.drop_eq_getElem_cons hlt, List.find?_cons]
    simp only [zcu, zal hx, zaf hx, cond_true, Option.bind_some, jn, zps ha, zfr (zas (show b[i].Text.length ≤ 1048576 by omega)), zg2 (zas (show tg.length ≤ 1048576 by omega)), hT _ hpn, zac hlt hb.maxi, ap1 (x := b[i].Path) (show tg.length ≤ 1048576 by omega)]
    unfold zjz at ih ⊢
    cases (getT a b[i].Path).2 <;> cases toB out b[i].Path <;> cases b[i].Text == f.Text <;> simp only [Bool.not_true, Bool.not_false, Bool.and_true, Bool.and_false, Bool.and_self, cond_true, cond_false] <;> first | exact ih | rfl
theorem tgt_both (text : List Str) (out : List Change) : (∃ g, b.find? (zjz a text out) = some g ∧ zjy a b text out = g.Path ∧ (zjy a b text out != []) = true) ∨ (b.find? (zjz a text out) = none ∧ zjy a b text out = [] ∧ (zjy a b text out != []) = false) := by
  cases h : b.find? (zjz a text out) with
  | none =>
    have := zqV h
    exact .inr ⟨rfl, this, by rw [this]; rfl⟩
  | some g =>
    have := zqW h
    refine .inl ⟨g, rfl, this, ?_⟩
    rw [this, bne_iff_ne]
    exact ziq (zbB tb (List.mem_of_find?_eq_some h))
theorem zqX {s : List Change × List Str} {f : File} (hT : TgI s.1 s.2) : TgI (stepI a b s f).1 (stepI a b s f).2 := by
  intro p hp
  have h0 := hT p hp
  have hz : (([] : Str) == p) = false := beq_false_of_ne (fun e => hp e.symm)
  unfold stepI ziM
  cases (getT b f.Path).2 with
  | true =>
    simp only [cond_true]
    cases (getT b f.Path).1 == f.Text with
    | true => exact h0
    | false => simp only [cond_false]; rw [zly, h0, hz, Bool.or_false]
  | false =>
    simp only [cond_false]
    cases zjy a b f.Text s.1 != [] with
    | true => simp only [cond_true]; rw [zly, List.any_append, h0]; simp
    | false => simp only [cond_false]; rw [zly, h0, hz, Bool.or_false]
theorem zmE : ∀ (xs : List File) (s : List Change × List Str), (xs.foldl (stepI a b) s).1 = xs.foldl (ziM a b) s.1
  | [], s => rfl
  | x :: xs, s => by rw [List.foldl_cons, List.foldl_cons, zmE xs]; rfl
theorem zt7 : ze9 a b = some (ofB a b) := by
  have sa := zaG ta
  have sb := zaG tb
  have hl := (zmx ta tb).len
  unfold ze9
  simp only [jn, zak, zen ha, zen hb, ta, tb, Option.bind_some, Bool.not_true, cond_false]
  have e1 := zbr (xs := a) (g := stepI a b) (I := fun i (s : List Change × List Str) => s.1.length ≤ i ∧ s.2.length ≤ i ∧ TgI s.1 s.2) (Z := fun s => zaW a b s.2 (fun e k => some e) (b.length + 1) s.1 0) (f := fun m s i => zcv a b (fun c d _ => zaW a b d (fun e k => some e) (b.length + 1) c 0) m s.1 s.2 i) (s := ([], [])) ⟨by simp, by simp, fun p hp => rfl⟩ (fun m i x s hx hI => by
    obtain ⟨hI1, hI2, hI3⟩ := hI
    have hi := zau hx
    have hxa := List.mem_of_getElem? hx
    have hxt := zar (zam ta x hxa)
    have hgt := zar (zbN (zam tb) x.Path)
    have g1 : ∀ (h : Change), apM s.1 [h] = some (s.1 ++ [h]) := fun h => ap1 (by omega)
    refine ⟨?_, ?_, ?_, zqX ha hb ta tb hI3⟩
    · have inner := fun Z h i' j' k' g' => zrE ha hb ta tb (f := x) (show x.Text.length ≤ 1000 by omega) hI3 (show s.2.length ≤ 1000 by omega) (Z := Z) (h := h) (i' := i') (j' := j') (k' := k') (g' := g') b.length 0 (b.length + 1) (by omega) (by omega)
      simp only [List.drop_zero] at inner
      simp only [zcv, jn, zal hx, zaf hx, cond_true, Option.bind_some, zac hi ha.maxi, zps hb, zfr (zas (show (getT b x.Path).1.length ≤ 1048576 by omega)), zqU (show x.Text.length ≤ 1000 by omega) (show (getT b x.Path).1.length ≤ 1000 by omega), za8 (show x.Text.length ≤ 1048576 by omega), g1, zak]
      unfold stepI ziM
      cases (getT b x.Path).2 with
      | true => cases (getT b x.Path).1 == x.Text <;> rfl
      | false =>
        simp only [cond_false]
        refine (inner _ _ _ _ _ _).trans ?_
        rcases tgt_both ha hb ta tb x.Text s.1 with ⟨g, q1, q2, q3⟩ | ⟨q1, q2, q3⟩
        · rw [q1, q3]
          simp only [g1, Option.bind_some, cond_true, q2]
        · rw [q1, q3]
          simp only [g1, Option.bind_some, cond_false]
    · have := zmD ha hb ta tb s.1 x
      show (ziM a b s.1 x).length ≤ _
      omega
    · unfold stepI
      cases (getT b x.Path).2 <;> cases zjy a b x.Text s.1 != [] <;> simp only [cond_true, cond_false, List.length_append, List.length_cons, List.length_nil] <;> omega) (fun m s _ => by simp only [zcv, zad, cond_false])
  refine e1.1.trans ?_
  obtain ⟨hI1, hI2, hI3⟩ := e1.2
  rw [zmE ha hb ta tb] at hI1 hI3 ⊢
  generalize (a.foldl (stepI a b) ([], [])).2 = tg at *
  show zaW a b tg (fun e k => some e) (b.length + 1) (ofA a b) 0 = _
  have e2 := (zbr (xs := b) (g := fun s g => bif zoR a b g then s ++ [zrv g] else s) (I := fun i (s : List Change) => s.length ≤ a.length + i) (Z := fun s => some s) (f := fun m s i => zaW a b tg (fun b f => some b) m s i) (s := ofA a b) (by omega) (fun m i x s hx hI => by
    have hi := zau hx
    have hxb := List.mem_of_getElem? hx
    have hxt := zar (zam tb x hxb)
    have hpn := ziq (zbB tb hxb)
    have g1 : ∀ (h : Change), apM s [h] = some (s ++ [h]) := fun h => ap1 (by omega)
    have hT : (tg.any fun y => y == x.Path) = toB (ofA a b) x.Path := hI3 _ hpn
    refine ⟨?_, ?_⟩
    · simp only [zaW, jn, zal hx, zaf hx, cond_true, Option.bind_some, zac hi hb.maxi, zps ha, zg2 (zas (show tg.length ≤ 1048576 by omega)), hT, za8 (show x.Text.length ≤ 1048576 by omega), g1]
      unfold zoR
      cases (getT a x.Path).2 <;> cases toB (ofA a b) x.Path <;> rfl
    · cases zoR a b x with
      | true => simp; omega
      | false => simp; omega) (fun m s _ => by simp only [zaW, zad, cond_false])).1
  refine e2.trans ?_
  rw [zlz ha hb ta tb]
  rfl
end
theorem zrF : ∀ {l : List Hunk} {lo : Int} {i : Nat} {p d : Hunk}, ChH lo l → l[i]? = some p → l[i + 1]? = some d → p.At + p.Less.length + 1 ≤ d.At
  | [], _, _, _, _, _, hp, _ => by simp at hp
  | q :: l, lo, 0, p, d, ⟨_, h2⟩, hp, hd => by
    simp only [List.getElem?_cons_zero, Option.some.injEq] at hp
    rw [hp] at h2
    cases l with
    | nil => simp at hd
    | cons e l =>
      simp only [Nat.zero_add, List.getElem?_cons_succ, List.getElem?_cons_zero, Option.some.injEq] at hd
      rw [← hd]
      exact h2.1
  | q :: l, lo, i + 1, p, d, ⟨_, h2⟩, hp, hd => zrF h2 (by simpa using hp) (by simpa using hd)
theorem zqY {l : List Hunk} (h8 : l.length ≤ 8) (hc : ChH 0 l) (hb : ∀ d ∈ l, zqQ 10 d) : zju l = some true := by
  unfold zju
  simp only [jn, zak]
  rw [zbt (n := l.length) (g := fun _ => true) (r0 := some false) (Z := some (decide ((l.length : Int) ≤ 8))) (f := fun m i => ze6 l (fun _ _ => some (decide ((l.length : Int) ≤ 8))) m false i) (fun m i hi => by
    have hx : l[i]? = some l[i] := List.getElem?_eq_getElem hi
    obtain ⟨b1, b2, b3, b4, b5⟩ := hb _ (List.getElem_mem hi)
    have l1 := zar b1
    have l2 := zar b2
    have e1 : (w64 ((l[i].Less.length : Int) + (l[i].More.length : Int)) == 0) = false := by
      rw [zai (by omega) (by omega), beq_eq_false_iff_ne]
      omega
    simp only [ze6, jn, zal hx, zaf hx, cond_true, Option.bind_some, zac hi (show l.length ≤ maxi by unfold maxi; omega), ziC (zcF (show l[i].Less.length ≤ 1000000 by omega) (zaX b1)), ziC (zcF (show l[i].More.length ≤ 1000000 by omega) (zaX b2)), b1, b2, zgV, Bool.not_true, cond_false, e1, decide_eq_true b4, decide_eq_true (show l[i].At ≤ 10 by exact b5), Bool.and_self]
    by_cases h0 : (0 : Int) < (i : Int)
    · have hy : l[i - 1]? = some l[i - 1] := List.getElem?_eq_getElem (by omega)
      obtain ⟨d1, d2, d3, d4, d5⟩ := hb _ (List.getElem_mem (show i - 1 < l.length by omega))
      have l3 := zar d1
      have hch := zrF hc hy (by rw [show i - 1 + 1 = i by omega]; exact hx)
      have hat : l[i - 1].At ≤ 10 := d5
      rw [decide_eq_true h0, cond_true, zkC hi (show l.length ≤ maxi by unfold maxi; omega) h0, zaf hy, Option.bind_some, Option.bind_some, zai (by omega) (by omega), decide_eq_false (by omega)]
      rfl
    · rw [decide_eq_false h0]; rfl) (fun m => by simp only [ze6, zad, cond_false]) _ (by omega), zaL.2 (fun _ _ _ => rfl), cond_true, decide_eq_true (by omega)]
theorem zqZ {c : Change} (h : VC c) : zh9 c = some true := by
  obtain ⟨hp, h⟩ := h
  have pl := zeA hp
  unfold zh9
  simp only [jn, zgX (show c.Path.length ≤ 1048576 by omega), hp, Option.bind_some, cond_true]
  rcases h with ⟨k, t, x, p0, p7, pc, pb⟩ | ⟨k, t, tn, x, p⟩ | ⟨k, t, x, p⟩
  · have pn : 0 < c.Patch.length := by
      cases hq : c.Patch with
      | nil => exact absurd hq p0
      | cons a l => simp
    rw [k, t, x, zqY (by omega) pc pb]
    simp only [List.length_nil, decide_eq_true (show (0 : Int) < (c.Patch.length : Int) by omega)]
    rfl
  · have tl := zeA t
    have hne : (c.To != c.Path) = true := by rw [bne_iff_ne]; exact tn
    rw [k, x, p, zgX (show c.To.length ≤ 1048576 by omega), t, hne]
    rfl
  · have xl := zar x
    rw [t, p, ziC (zcF (show c.Text.length ≤ 1000000 by omega) (zaX x)), x]
    rcases k with k | k <;> rw [k] <;> rfl
theorem zpA {l : List Change} {p : Str} (hl : l.length ≤ maxi) (h : ∀ c ∈ l, c.Path ≠ p ∧ c.To ≠ p) : zgi l p = some true := by
  unfold zgi
  simp only [jn, zak]
  rw [zbt (n := l.length) (g := fun _ => true) (r0 := some false) (Z := some true) (f := fun m i => zdG l p (fun _ _ => some true) m false i) (fun m i hi => by
    have hx : l[i]? = some l[i] := List.getElem?_eq_getElem hi
    obtain ⟨h1, h2⟩ := h _ (List.getElem_mem hi)
    simp only [zdG, jn, zal hx, zaf hx, cond_true, Option.bind_some, zac hi hl, beq_false_of_ne h1, beq_false_of_ne h2, cond_false]) (fun m => by simp only [zdG, zad, cond_false]) _ (by omega), zaL.2 (fun _ _ _ => rfl), cond_true]
theorem zq0 {l : List Change} (hl : l.length ≤ 16) (hv : ∀ c ∈ l, VC c) (hp : l.Pairwise RC) : zjv l = some true := by
  unfold zjv
  simp only [jn, zak]
  have hpw := List.pairwise_iff_getElem.1 hp
  rw [zbt (n := l.length) (g := fun _ => true) (r0 := some false) (Z := some (decide ((l.length : Int) ≤ 16))) (f := fun m i => ze7 l (fun _ _ => some (decide ((l.length : Int) ≤ 16))) m false i) (fun m i hi => by
    have hx : l[i]? = some l[i] := List.getElem?_eq_getElem hi
    have hr : ∀ c ∈ l.take i, RC c l[i] := fun c hc => by
      obtain ⟨j, hj, e⟩ := List.mem_iff_getElem.1 hc
      rw [List.length_take] at hj
      rw [List.getElem_take] at e
      rw [← e]
      exact hpw j i (by omega) hi (by omega)
    have hlt : (l.take i).length ≤ maxi := by rw [List.length_take]; unfold maxi; omega
    have f1 := zpA (p := l[i].Path) hlt fun c hc => ⟨(hr c hc).1, (hr c hc).2.1⟩
    simp only [ze7, jn, zal hx, zaf hx, cond_true, Option.bind_some, zac hi (show l.length ≤ maxi by unfold maxi; omega), zqZ (hv _ (List.getElem_mem hi)), ziw (show i ≤ l.length by omega), f1, Bool.not_true, cond_false]
    cases ht : l[i].To != [] with
    | false => rfl
    | true =>
      have ht' : l[i].To ≠ [] := by simpa using ht
      have f2 := zpA (p := l[i].To) hlt fun c hc => (hr c hc).2.2 ht'
      rw [cond_true, f2]
      rfl) (fun m => by simp only [ze7, zad, cond_false]) _ (by omega), zaL.2 (fun _ _ _ => rfl), cond_true, decide_eq_true (by omega)]
theorem zpB {l : List Change} (hl : l.length ≤ 16) (hv : ∀ c ∈ l, VC c) (hp : l.Pairwise RC) : zct l = some (pathsC l) := by
  unfold zct
  rw [zq0 hl hv hp, Option.bind_some, Bool.not_true, cond_false]
  simp only [jn, zak]
  have := (zbr (xs := l) (g := zny) (I := fun i s => Asd s ∧ s.length ≤ 2 * i) (Z := fun s => some s) (f := fun m s i => zbz l (fun b _ => some b) m s i) (s := []) ⟨.nil, by simp⟩ (fun m i x s hx ⟨h1, h2⟩ => by
    have hi := zau hx
    have g1 := zdW s x.Path
    have g2 := zdW (zgQ s x.Path) x.To
    refine ⟨?_, zoV h1 x, ?_⟩
    · simp only [zbz, jn, zal hx, zaf hx, cond_true, Option.bind_some, zac hi (show l.length ≤ maxi by unfold maxi; omega), zi0 (show s.length ≤ 1000000 by omega) h1, zi0 (show (zgQ s x.Path).length ≤ 1000000 by omega) (zdx s x.Path)]
      unfold zny
      cases x.To != [] <;> rfl
    · unfold zny
      cases x.To != [] <;> simp only [cond_true, cond_false] <;> omega) (fun m s _ => by simp only [zbz, zad, cond_false])).1
  exact this
def zkJ (c : Change) : List Str := bif c.Kind == 4 then [c.Path, c.To] else [c.Path]
theorem zmF {α β : Type} (f : α → List β) : ∀ (l : List α) (s : List β), l.foldl (fun s c => s ++ f c) s = s ++ l.flatMap f
  | [], s => by simp
  | c :: l, s => by rw [List.foldl_cons, zmF f l, List.flatMap_cons, List.append_assoc]
theorem zmG (c : Change) : (zkJ c).length ≤ 2 := by unfold zkJ; cases c.Kind == 4 <;> simp
theorem zpC {l : List Change} (hl : l.length ≤ 16) (hv : ∀ c ∈ l, VC c) : ∃ ps, zf7 l = some ps ∧ ps.length ≤ 40 ∧ ∀ x, x ∈ ps ↔ x ∈ pathsC l := by
  have hlen : ∀ l : List Change, (l.flatMap zkJ).length ≤ 2 * l.length := by
    intro l
    induction l with
    | nil => simp
    | cons c l ih =>
      have := zmG c
      rw [List.flatMap_cons, List.length_append, List.length_cons]
      omega
  have h1 := hlen l
  have h2 : (zcS (l.flatMap zkJ)).length = (l.flatMap zkJ).length := List.length_mergeSort _
  refine ⟨zcS (l.flatMap zkJ), ?_, by omega, fun x => ?_⟩
  · unfold zf7
    simp only [jn, zak]
    have := (zbr (xs := l) (g := fun s c => s ++ zkJ c) (I := fun i s => s.length ≤ 2 * i) (Z := fun s => (zay s).bind fun b => some b) (f := fun m s i => zda l (fun a _ => (zay a).bind fun b => some b) m s i) (s := []) (by simp) (fun m i x s hx h2 => by
      have hi := zau hx
      have g1 := zmG x
      refine ⟨?_, by rw [List.length_append]; omega⟩
      simp only [zda, jn, zal hx, zaf hx, cond_true, Option.bind_some, zac hi (show l.length ≤ maxi by unfold maxi; omega), ap1 (x := x.Path) (show s.length ≤ 1048576 by omega), ap1 (x := x.To) (show (s ++ [x.Path]).length ≤ 1048576 by simp; omega)]
      unfold zkJ
      cases x.Kind == 4 <;> simp only [cond_true, cond_false, List.append_assoc, List.singleton_append]) (fun m s _ => by simp only [zda, zad, cond_false])).1
    refine this.trans ?_
    rw [zmF, List.nil_append]
    unfold zay
    rw [if_pos (by omega), Option.bind_some]
  · rw [zjF, zjK, List.mem_flatMap]
    constructor
    · rintro ⟨c, hc, hx⟩
      obtain ⟨_, hk⟩ := hv c hc
      refine ⟨c, hc, ?_⟩
      unfold zkJ at hx
      cases hq : c.Kind == 4 with
      | false =>
        rw [hq, cond_false, List.mem_singleton] at hx
        exact .inl hx
      | true =>
        have h4 : c.Kind = 4 := by simpa using hq
        rw [hq, cond_true, List.mem_cons, List.mem_singleton] at hx
        rcases hx with hx | hx
        · exact .inl hx
        · rcases hk with ⟨k, _⟩ | ⟨_, t, _⟩ | ⟨k, _⟩
          · omega
          · exact .inr ⟨ziq t, hx⟩
          · omega
    · rintro ⟨c, hc, hx⟩
      obtain ⟨_, hk⟩ := hv c hc
      refine ⟨c, hc, ?_⟩
      unfold zkJ
      rcases hx with hx | ⟨h0, hx⟩
      · cases c.Kind == 4 <;> simp [hx]
      · rcases hk with ⟨_, t, _⟩ | ⟨k, _⟩ | ⟨_, t, _⟩
        · exact absurd t h0
        · rw [k]; simp [hx]
        · exact absurd t h0
theorem zsx {xs : List Owner} {path : Str} (hb : OB xs) (hp : path.length ≤ 1048576) : zhd xs path = some (ziy xs path) := by
  unfold zhd
  simp only [jn, zak]
  exact zrB hb hp (K := fun y1 _ _ => some y1) xs.length 0 (xs.length + 1) (0, []) (by omega) (by omega)
section
variable {owners : List Owner} {v : Review} (hb : OB owners) (hv : v.Yes.length ≤ 1000)
include hb hv
theorem zoo {ps : List Str} (hps : ps.length ≤ 1000) (hpp : ∀ p ∈ ps, zaY p = true) : zcd owners v ps (fun b _ => some b) (ps.length + 1) [] 0 = some (zk6 (ziy owners) v ps) := by
  have := (zbr (xs := ps) (g := zg1 (ziy owners) v) (I := fun i s => Asd s ∧ s.length ≤ i) (Z := fun s => some s) (f := fun m s i => zcd owners v ps (fun b _ => some b) m s i) (s := []) ⟨.nil, by simp⟩ (fun m i x s hx ⟨h1, h2⟩ => by
    have hi := zau hx
    have hl := zeA (hpp x (List.mem_of_getElem? hx))
    have g1 := zdW s (ziy owners x)
    have inner : ∀ (Z : Bool → Int → Option (List Str)) (hZ : ∀ q z z', Z q z = Z q z') (j : Bool), zbU v (ziy owners x) Z (v.Yes.length + 1) j 0 = Z (j || v.Yes.any fun y => y == ziy owners x) 0 := fun Z hZ j => by
      have := (zbr (xs := v.Yes) (g := fun d y => d || (y == ziy owners x)) (I := fun _ _ => True) (Z := fun s => Z s 0) (f := fun m s i' => zbU v (ziy owners x) Z m s i') (s := j) trivial (fun m k y s hy _ => by
        refine ⟨?_, trivial⟩
        simp only [zbU, zal hy, zaf hy, cond_true, Option.bind_some, zac (zau hy) (show v.Yes.length ≤ maxi by unfold maxi; omega)]
        cases s <;> rfl) (fun m s _ => by simp only [zbU, zad, cond_false]; exact hZ _ _ _)).1
      rw [this, zlx]
    refine ⟨?_, ?_, ?_⟩
    · simp only [zcd, jn, zal hx, zaf hx, cond_true, Option.bind_some, zac hi (show ps.length ≤ maxi by unfold maxi; omega), zsx hb (show x.length ≤ 1048576 by omega), zak, zi0 (show s.length ≤ 1000000 by omega) h1]
      rw [inner _ (fun q z z' => rfl), inner _ (fun q z z' => rfl)]
      unfold zg1 zjp
      cases ziy owners x == [] <;> cases ziy owners x == v.By <;> cases (v.Yes.any fun y => y == ziy owners x) <;> rfl
    · unfold zg1
      cases zjp v (ziy owners x) with
      | true => exact h1
      | false => exact zdx _ _
    · unfold zg1
      cases zjp v (ziy owners x) <;> simp only [cond_true, cond_false] <;> omega) (fun m s _ => by simp only [zcd, zad, cond_false])).1
  exact this
theorem zop (ho : zc5 owners = true) {ps : List Str} (hps : ps.length ≤ 1000) (hpp : ∀ p ∈ ps, zaY p = true) : zbp owners v ps (fun b _ => some (b, true)) (ps.length + 1) [] 0 = some (zk6 (ziy owners) v ps, true) := by
  have := (zbr (xs := ps) (g := zg1 (ziy owners) v) (I := fun i s => s.length ≤ i) (Z := fun s => some (s, true)) (f := fun m s i => zbp owners v ps (fun b _ => some (b, true)) m s i) (s := []) (by simp) (fun m i x s hx h2 => by
    have hi := zau hx
    have hxp := hpp x (List.mem_of_getElem? hx)
    have hl := zeA hxp
    have g1 := zdW s (ziy owners x)
    have eo : znP owners x = ziy owners x := by unfold znP; rw [ho, hxp]; rfl
    refine ⟨?_, ?_⟩
    · simp only [zbp, jn, zal hx, zaf hx, cond_true, Option.bind_some, zac hi (show ps.length ≤ maxi by unfold maxi; omega), znl hb (show x.length ≤ 1048576 by omega), eo, zg2 (show v.Yes.length ≤ maxi by unfold maxi; omega), zoi (show s.length ≤ 1000000 by omega)]
      unfold zg1 zjp bne
      cases ziy owners x == [] <;> cases ziy owners x == v.By <;> cases (v.Yes.any fun y => y == ziy owners x) <;> rfl
    · unfold zg1
      cases zjp v (ziy owners x) <;> simp only [cond_true, cond_false] <;> omega) (fun m s _ => by simp only [zbp, zad, cond_false])).1
  exact this
end
def zp5 (r : Repo) (owners : List Owner) (v : Review) : Bool := zae r && (zc5 owners && (znN v && (!decide (atB r v.Branch < 0) && !decide (atB r v.Into < 0))))
def chsB (r : Repo) (v : Review) : List Change := ofB (zhQ r (atB r v.Into) (atB r v.Branch)) (zaA r (atB r v.Branch).toNat)
def zg3 (r : Repo) (owners : List Owner) (v : Review) : List Str × Bool := bif zp5 r owners v then (zk6 (ziy owners) v (pathsC (chsB r v)), true) else ([], false)
theorem zka {r : Repo} {owners : List Owner} {v : Review} (h : zp5 r owners v = true) : zae r = true ∧ zc5 owners = true ∧ znN v = true ∧ upB r.Commits.length (atB r v.Branch) = true ∧ upB r.Commits.length (atB r v.Into) = true := by
  unfold zp5 at h
  simp only [Bool.and_eq_true, Bool.not_eq_true', decide_eq_false_iff_not] at h
  obtain ⟨h1, h2, h3, h4, h5⟩ := h
  have a1 := at_range h1 v.Branch
  have a2 := at_range h1 v.Into
  exact ⟨h1, h2, h3, zap.2 (by omega), zap.2 (by omega)⟩
section
variable {r : Repo} (h : RpB r) {owners : List Owner} (hb : OB owners) {v : Review} (hv : Bk.fit v)
include h hb hv
theorem zkK : zes r owners v = some (zg3 r owners v) := by
  unfold zes zg3
  simp only [jn, zkD h, zmq hb, zqN hv, zkE h, Option.bind_some]
  cases hc : zp5 r owners v with
  | false =>
    rw [cond_false]
    unfold zp5 at hc
    revert hc
    cases zae r <;> cases zc5 owners <;> cases znN v <;> cases decide (atB r v.Branch < 0) <;> cases decide (atB r v.Into < 0) <;> intro hc <;> first | rfl | cases hc
  | true =>
    obtain ⟨c1, c2, c3, c4, c5⟩ := zka hc
    obtain ⟨q0, q1⟩ := zap.1 c4
    obtain ⟨i0, i1⟩ := zap.1 c5
    have hs := (zag c1).1
    have hg := zml h c1
    obtain ⟨e1, e2, e3⟩ := zjo hg i0 i1 q0 q1
    obtain ⟨tb, tb2, _, _⟩ := hg.tree (i := (atB r v.Branch).toNat) (by omega)
    obtain ⟨f1, f2, f3⟩ := zir e3 tb2
    have hy := zk3 c3
    have hpl := zj8 (ofB (zhQ r (atB r v.Into) (atB r v.Branch)) (zaA r (atB r v.Branch).toNat)) []
    have sof : zhG (zhQ r (atB r v.Into) (atB r v.Branch)) (r.Commits.getD (atB r v.Branch).toNat noCommit).Tree = some (chsB r v) := zt6 e2 tb e3 tb2
    rw [c1, c2, c3, decide_eq_false (show ¬ atB r v.Branch < 0 by omega), decide_eq_false (show ¬ atB r v.Into < 0 by omega)]
    simp only [Bool.not_true, cond_false, cond_true]
    unfold zia zhu
    simp only [jn, zkE h, Option.bind_some, zeD q0 q1, e1, sof, zak]
    rw [show zct (chsB r v) = some (pathsC (chsB r v)) from zpB f1 f2 f3]
    simp only [Option.bind_some, zak]
    rw [zoo hb (show v.Yes.length ≤ 1000 by omega) (ps := pathsC (chsB r v)) (by unfold chsB; show (List.foldl zny [] _).length ≤ _; simp only [List.length_nil] at hpl; omega) (fun p hp => zmz e3 tb2 hp), Option.bind_some]
theorem zkL : zdP r owners v = some (zg3 r owners v) := by
  unfold zdP zg3
  simp only [jn, zje h, zj2 hb, znk hv, zm8 h, Option.bind_some]
  cases hc : zp5 r owners v with
  | false =>
    rw [cond_false]
    unfold zp5 at hc
    revert hc
    cases zae r <;> cases zc5 owners <;> cases znN v <;> cases decide (atB r v.Branch < 0) <;> cases decide (atB r v.Into < 0) <;> intro hc <;> first | rfl | cases hc
  | true =>
    obtain ⟨c1, c2, c3, c4, c5⟩ := zka hc
    obtain ⟨q0, q1⟩ := zap.1 c4
    obtain ⟨i0, i1⟩ := zap.1 c5
    have hs := (zag c1).1
    have hg := zml h c1
    obtain ⟨e1, e2, e3⟩ := zjo hg i0 i1 q0 q1
    obtain ⟨tb, tb2, _, _⟩ := hg.tree (i := (atB r v.Branch).toNat) (by omega)
    obtain ⟨f1, f2, f3⟩ := zir e3 tb2
    have hy := zk3 c3
    obtain ⟨ps, p1, p2, p3⟩ := zpC f1 f2
    rw [c1, c2, c3, decide_eq_false (show ¬ atB r v.Branch < 0 by omega), decide_eq_false (show ¬ atB r v.Into < 0 by omega)]
    simp only [Bool.not_true, cond_false, cond_true]
    rw [znn h c1 c4 c5, Option.bind_some, zhL h c4, Option.bind_some, zmW, zt7 e2 tb e3 tb2, Option.bind_some, p1, Option.bind_some]
    simp only [zak]
    rw [zop hb (show v.Yes.length ≤ 1000 by omega) c2 (by omega) (fun p hp => zmz e3 tb2 ((p3 p).1 hp)), zpz (qs := pathsC (chsB r v)) p3]
end
section
variable {r : Repo} (h : RpB r) {owners : List Owner} (hb : OB owners) {v : Review} (hv : Bk.fit v)
include h hb hv
end
def zkI : List Str → List Str → Nat
  | a :: l, b :: m => bif a == b then zkI l m + 1 else 0
  | _, _ => 0
def zvl (t : List Str) : List Str → Nat → Nat × Nat → Nat × Nat
  | [], _, r => r
  | b :: bs, i, r => zvl t bs (i + 1) (bif decide (r.2 < zkI (b :: bs) t) then (i, zkI (b :: bs) t) else r)
def zoG (base t : List Str) : Nat × Nat := zvl t base 0 (0, 0)
def zoQ (out : List Delta) (x : Str) : List Delta := match out.getLast? with
  | some d => bif decide (0 < d.Lines.length) then out.dropLast ++ [⟨d.From, d.Many, d.Lines ++ [x]⟩] else out ++ [⟨0, 0, [x]⟩]
  | none => out ++ [⟨0, 0, [x]⟩]
def zin (base : List Str) : Nat → List Delta → List Str → List Delta
  | 0, out, _ => out
  | _ + 1, out, [] => out
  | n + 1, out, x :: t => bif decide (0 < (zoG base (x :: t)).2) then zin base n (out ++ [⟨(zoG base (x :: t)).1, (zoG base (x :: t)).2, []⟩]) ((x :: t).drop (zoG base (x :: t)).2) else zin base n (zoQ out x) t
def zkv (base t : List Str) : List Delta := zin base t.length [] t
theorem who_fold (p : Str) : ∀ (xs : List Owner) (b : Nat × Str), (xs.foldl (ownStep p) b).2 = b.2 ∨ ∃ o ∈ xs, (xs.foldl (ownStep p) b).2 = o.Who
  | [], b => .inl rfl
  | x :: xs, b => by
    rw [List.foldl_cons]
    rcases who_fold p xs (ownStep p b x) with h | ⟨o, ho, h⟩
    · rw [h]
      unfold ownStep
      cases (x.Path == p || zbm x.Path p) && decide (b.1 < x.Path.length) with
      | true => exact .inr ⟨x, by simp, rfl⟩
      | false => exact .inl rfl
    · exact .inr ⟨o, by simp [ho], h⟩
theorem who_mem (xs : List Owner) (p : Str) : ziy xs p = [] ∨ ∃ o ∈ xs, ziy xs p = o.Who := who_fold p xs (0, [])
theorem zla {r : Repo} (h : RpB r) {owners : List Owner} {v : Review} : (zg3 r owners v).1.length ≤ 40 := by
  unfold zg3
  cases hc : zp5 r owners v with
  | false => simp
  | true =>
    obtain ⟨c1, c2, c3, c4, c5⟩ := zka hc
    obtain ⟨q0, q1⟩ := zap.1 c4
    obtain ⟨i0, i1⟩ := zap.1 c5
    have hg := zml h c1
    obtain ⟨_, e2, e3⟩ := zjo hg i0 i1 q0 q1
    obtain ⟨tb, tb2, _, _⟩ := hg.tree (i := (atB r v.Branch).toNat) (by omega)
    obtain ⟨f1, _, _⟩ := zir e3 tb2
    have h4 : (chsB r v).length ≤ 16 := f1
    generalize chsB r v = cs at h4 ⊢
    have h1 : (pathsC cs).length ≤ ([] : List Str).length + 2 * cs.length := zj8 cs []
    generalize pathsC cs = ps at h1 ⊢
    have h2 : (zk6 (ziy owners) v ps).length ≤ ([] : List Str).length + ps.length := zmB ps []
    rw [cond_true]
    show (zk6 (ziy owners) v ps).length ≤ 40
    simp only [List.length_nil] at h1 h2
    omega
theorem zq1 {r : Repo} (h : RpB r) {owners : List Owner} (ho : Bk.fit owners) {v : Review} : Bk.fit (zg3 r owners v).1 := by
  have hs := zla h (owners := owners) (v := v)
  refine ⟨by unfold maxi; omega, fun x hx => ?_⟩
  unfold zg3 at hx
  cases hc : zp5 r owners v with
  | false => rw [hc] at hx; simp at hx
  | true =>
    rw [hc, cond_true] at hx
    obtain ⟨p, _, e, _⟩ := zjq.1 hx
    rcases who_mem owners p with e2 | ⟨o, hm, e2⟩
    · rw [← e, e2]; show (0 : Nat) ≤ maxi; omega
    · rw [← e, e2]; exact (ho.2 o hm).2
theorem zsy (x : Review) : (⟨x.Branch, x.Into, x.By, x.Yes⟩ : Review) = x := rfl
theorem zjD {repo : Repo} {owners : List Owner} {v : Review} (h : Bk.fit repo) (ho : Bk.fit owners) (hv : Bk.fit v) : zcC repo owners v = some true := by
  unfold zcC
  rw [zrp h (by omega) (by omega), Option.bind_some]
  by_cases hb : (Bk.bulk repo : Int) ≤ 1048576
  case neg => rw [if_neg hb]; rfl
  rw [if_pos hb, decide_eq_false (by omega), cond_false, zsd ho (by omega) (by omega), Option.bind_some]
  by_cases hb2 : (Bk.bulk owners : Int) ≤ 1048576 - Bk.bulk repo
  case neg => rw [if_neg hb2]; rfl
  rw [if_pos hb2, decide_eq_false (by omega), cond_false, zse hv (by omega) (by omega), Option.bind_some]
  by_cases hb3 : (Bk.bulk v : Int) ≤ 1048576 - Bk.bulk repo - Bk.bulk owners
  case neg => rw [if_neg hb3]; rfl
  rw [if_pos hb3, decide_eq_false (by omega), cond_false]
  have b1 : Bk.bulk repo ≤ 1048576 := by omega
  have b2 : Bk.bulk owners ≤ 1048576 := by omega
  have b3 : Bk.bulk v ≤ 1048576 := by omega
  have hr := RpB.of h b1
  have ob := OB.of b2
  have hf := zq1 hr ho (v := v)
  have hs := zla hr (owners := owners) (v := v)
  have hl : v.Yes.length ≤ 1048576 := zcT (show Bk.bulk v.Yes ≤ 1048576 by have : Bk.bulk v = Bk.bulk v.Branch + (Bk.bulk v.Into + (Bk.bulk v.By + Bk.bulk v.Yes)) := rfl; omega)
  have c1 := ziZ repo
  have c2 := MkD.few_list zoP owners
  have c3 := zpq v
  have c4 := zo5 (zg3 repo owners v).1
  have hg : Bk.fit (zfb.list.wr 1 (zg3 repo owners v).1).2 := MkD.fits_list zix 1 _ (by omega) (by omega) hf
  have c5 := zfb.list.cnt 1 (zg3 repo owners v).1
  have e2 := zfb.list.again 1 (zg3 repo owners v).1
  have f1 : (zbA.wr 1 repo).1 = 1 + (zbA.cn repo : Int) := zbA.fst _ _
  have f2 : (zfj.list.wr (zbA.wr 1 repo).1 owners).1 = (zbA.wr 1 repo).1 + (zfj.list.cn owners : Int) := zfj.list.fst _ _
  have n1 : decide ((zhg.wr (zfj.list.wr (zbA.wr 1 repo).1 owners).1 v).1 < 0) = false := decide_eq_false (by rw [zhg.fst, f2, f1]; omega)
  have n2 : decide ((zfb.list.wr 1 (zg3 repo owners v).1).1 < 0) = false := decide_eq_false (by rw [zfb.list.fst]; omega)
  simp only [zrq b1, zsf b2, zsg b3, Option.bind_some, zso, zsy, zkK hr ob hv, zkL hr ob hv, jn, zm3 hf, zoz h, zsh ho, zsi hv, beq_self_eq_true, Bool.not_true, cond_false, bne_self_eq_false,
    zlh (x := repo) (k := 1) (by omega) (by omega) h, zp1 (xs := owners) (k := (zbA.wr 1 repo).1) (by omega) (by omega) ho, zp3 (x := v) (k := (zfj.list.wr (zbA.wr 1 repo).1 owners).1) (by omega) (by omega) hv, n1, zkB (xs := (zg3 repo owners v).1) (k := 1) (by omega) (by omega) hf,
    zmR (zfb.list.held_wr 1 (zg3 repo owners v).1) (show (0 : Int) ≤ 1 by omega) (by omega) hg, e2, n2]
def OD (n : Nat) (l : List Owner) : Prop := l.length ≤ n ∧ ∀ o ∈ l, o.Path.length ≤ 10 ∧ o.Who.length ≤ 10
theorem OD.ob {n : Nat} {l : List Owner} (h : OD n l) (hn : n ≤ 1000) : OB l := ⟨by have := h.1; omega, fun o ho => by have := h.2 o ho; omega⟩
theorem OD.fit {n : Nat} {l : List Owner} (h : OD n l) (hn : n ≤ 1000) : Bk.fit l := ⟨by have := h.1; unfold maxi; omega, fun o ho => by
  have := h.2 o ho
  exact ⟨by show o.Path.length ≤ maxi; unfold maxi; omega, by show o.Who.length ≤ maxi; unfold maxi; omega⟩⟩
section
variable {base t : List Str} (hb : zaB base = true) (ht : zaB t = true)
include hb ht
end
def ztZ (list : List (List Str)) (ds : List Int) (i : Nat) (t : List Str) (b dep : Int) (d : List Delta) : Prop := (b = -1 ∧ d = zkv [] t ∧ dep = 1) ∨ ∃ k o dk, k < i ∧ b = (k : Int) ∧ list[k]? = some o ∧ ds[k]? = some dk ∧ d = zkv o t ∧ dep = dk + 1 ∧ dk ≤ 2
theorem ztZ.snoc {list : List (List Str)} {ds : List Int} {i : Nat} {t : List Str} {b dep z : Int} {d : List Delta} (h : ztZ list ds i t b dep d) : ztZ list (ds ++ [z]) i t b dep d := by
  rcases h with h | ⟨k, o, dk, h1, h2, h3, h4, h5⟩
  · exact .inl h
  · exact .inr ⟨k, o, dk, h1, h2, h3, by rw [List.getElem?_append_left (List.getElem?_eq_some_iff.1 h4).1]; exact h4, h5⟩
section
variable {list : List (List Str)} (h12 : list.length ≤ 12) (hl : ∀ t ∈ list, zaB t = true)
include h12 hl
end
end Go.Vm
