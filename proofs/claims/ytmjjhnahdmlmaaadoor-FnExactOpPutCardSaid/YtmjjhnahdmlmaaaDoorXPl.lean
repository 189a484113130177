/- Plain laws of the loops that the models are made of. Conditions: each law's own premises. -/
import Derived.Test.YtmjjhnahdmlmaaaDoorXSp
import Derived.Laws.BitsLemmas
namespace Go.Sx
open Go
set_option linter.unusedSimpArgs false
set_option linter.unusedVariables false

def maxi : Nat := 9223372036854775807
theorem w64_id {n : Int} (h : -9223372036854775808 ≤ n) (h' : n ≤ 9223372036854775807) : w64 n = n := by
  unfold w64
  rw [IntKind.wrap_i64]; omega
theorem w64_ix {i n : Nat} (h : i < n) (hn : n ≤ maxi) : w64 ((i : Int) + 1) = ((i + 1 : Nat) : Int) := by
  unfold maxi at hn
  rw [w64_id (by omega) (by omega)]; omega
section
variable {α β : Type} {xs ys : List α} {i : Nat} {x : α}
theorem gi_of (h : xs[i]? = some x) : gi xs (i : Int) = some x := by simp [gi, h]
theorem lt_of (h : xs[i]? = some x) : decide ((i : Int) < (xs.length : Int)) = true := by
  have := (List.getElem?_eq_some_iff.1 h).1
  simpa using this
theorem ix_of (h : xs[i]? = some x) : i < xs.length := (List.getElem?_eq_some_iff.1 h).1
theorem end_of (n : Nat) : decide ((n : Int) < (n : Int)) = false := by simp
theorem end_le (n : Nat) : decide ((n : Int) + 1 ≤ (n : Int)) = false := by simp; omega
theorem fuel0 (n : Nat) : ((n : Int) - 0).toNat + 1 = n + 1 := by omega
theorem siM_of (h : i < xs.length) (y : α) : siM xs (i : Int) y = some (xs.set i y) := by
  unfold siM
  rw [if_pos ⟨by omega, by omega⟩]
  rfl
theorem mkM_of {n : Nat} (h : n ≤ lim) (z : α) : mkM (n : Int) z = some (List.replicate n z) := by
  unfold mkM
  rw [if_pos ⟨by omega, by omega⟩]
  rfl
theorem slM_take (h : i ≤ xs.length) : slM xs 0 (i : Int) = some (xs.take i) := by
  unfold slM
  rw [if_pos ⟨by omega, by omega, by omega⟩]
  simp
theorem slM_drop (h : i ≤ xs.length) : slM xs (i : Int) (xs.length : Int) = some (xs.drop i) := by
  unfold slM
  rw [if_pos ⟨by omega, by omega, by omega⟩]
  simp
theorem apM_of (h : xs.length + ys.length ≤ lim) : apM xs ys = some (xs ++ ys) := by unfold apM; rw [if_pos h]
end

/-- g holds of all numbers from i, n of them. -/
def allN (g : Nat → Bool) : Nat → Nat → Bool
  | _, 0 => true
  | i, n + 1 => g i && allN g (i + 1) n
theorem allN_iff {g : Nat → Bool} : ∀ {n i : Nat}, allN g i n = true ↔ ∀ j, i ≤ j → j < i + n → g j = true
  | 0, i => by simp [allN]; omega
  | n + 1, i => by
    simp only [allN, Bool.and_eq_true, allN_iff (n := n)]
    constructor
    · rintro ⟨h1, h2⟩ j hj hn
      rcases Nat.eq_or_lt_of_le hj with e | e
      · rw [← e]; exact h1
      · exact h2 j e (by omega)
    · exact fun h => ⟨h i (Nat.le_refl _) (by omega), fun j hj hn => h j (by omega) (by omega)⟩
theorem allN_congr {g g' : Nat → Bool} {i n : Nat} (h : ∀ j, i ≤ j → j < i + n → g j = g' j) : allN g i n = allN g' i n := by
  have : ∀ b c : Bool, (b = true ↔ c = true) → b = c := by decide
  apply this
  rw [allN_iff, allN_iff]
  exact ⟨fun h1 j hj hn => by rw [← h j hj hn]; exact h1 j hj hn, fun h1 j hj hn => by rw [h j hj hn]; exact h1 j hj hn⟩
theorem allN_list {α : Type} {p : α → Bool} {g : Nat → Bool} : ∀ (xs : List α) (i : Nat), (∀ j x, xs[j]? = some x → g (i + j) = p x) → allN g i xs.length = xs.all p
  | [], _, _ => rfl
  | x :: xs, i, h => by
    simp only [List.length_cons, allN, List.all_cons]
    rw [show g i = p x from h 0 x rfl, allN_list xs (i + 1) (fun j y hy => by
      have := h (j + 1) y hy
      rwa [show i + (j + 1) = i + 1 + j by omega] at this)]
/-- A loop that stops at the first number of which g does not hold. -/
theorem loop_all {R : Type} {n : Nat} {g : Nat → Bool} {r0 Z : Option R} {f : Nat → Int → Option R}
    (hs : ∀ m (i : Nat), i < n → f (m + 1) (i : Int) = bif g i then f m ((i + 1 : Nat) : Int) else r0) (he : ∀ m, f (m + 1) (n : Int) = Z) :
    ∀ m, n < m → f m 0 = bif allN g 0 n then Z else r0 := by
  have key : ∀ k i m, i + k = n → k < m → f m (i : Int) = bif allN g i k then Z else r0 := by
    intro k
    induction k with
    | zero =>
      intro i m hi hm
      obtain ⟨m, rfl⟩ : ∃ q, m = q + 1 := ⟨m - 1, by omega⟩
      rw [show i = n by omega, he]
      rfl
    | succ k ih =>
      intro i m hi hm
      obtain ⟨m, rfl⟩ : ∃ q, m = q + 1 := ⟨m - 1, by omega⟩
      rw [hs m i (by omega), ih (i + 1) m (by omega) (by omega)]
      simp only [allN]
      cases g i <;> rfl
  intro m hm
  exact key n 0 m (by omega) hm
/-- A loop over a list that stops at the first element of which p does not hold. -/
theorem loop_list {R α : Type} {xs : List α} {p : α → Bool} {r0 Z : Option R} {f : Nat → Int → Option R}
    (hs : ∀ m (i : Nat) x, xs[i]? = some x → f (m + 1) (i : Int) = bif p x then f m ((i + 1 : Nat) : Int) else r0) (he : ∀ m, f (m + 1) (xs.length : Int) = Z) {m : Nat} (hm : xs.length < m) :
    f m 0 = bif xs.all p then Z else r0 := by
  have := loop_all (n := xs.length) (g := fun i => match xs[i]? with | some x => p x | none => true) (f := f) (r0 := r0) (fun m i hi => by
    rw [hs m i xs[i] (List.getElem?_eq_getElem hi)]
    simp only [List.getElem?_eq_getElem hi]) he m hm
  rw [this, allN_list (p := p) xs 0 (fun j x hx => by simp [hx])]
/-- A loop that fills out[i] with g (xs[i]). -/
theorem loop_copy {R α β : Type} {xs : List α} {g : α → β} {z : β} {f : Nat → Int → List β → Option R} {Z : List β → Option R}
    (hs : ∀ m (i : Nat) x out, xs[i]? = some x → out.length = xs.length → f (m + 1) (i : Int) out = f m ((i + 1 : Nat) : Int) (out.set i (g x)))
    (he : ∀ m out, f (m + 1) (xs.length : Int) out = Z out) {m : Nat} (hm : xs.length < m) :
    f m 0 (List.replicate xs.length z) = Z (xs.map g) := by
  have key : ∀ k i m, i + k = xs.length → k < m → f m (i : Int) ((xs.take i).map g ++ List.replicate k z) = Z (xs.map g) := by
    intro k
    induction k with
    | zero =>
      intro i m hi hm
      obtain ⟨m, rfl⟩ : ∃ q, m = q + 1 := ⟨m - 1, by omega⟩
      rw [show i = xs.length by omega, he]
      simp
    | succ k ih =>
      intro i m hi hm
      obtain ⟨m, rfl⟩ : ∃ q, m = q + 1 := ⟨m - 1, by omega⟩
      have hlt : i < xs.length := by omega
      rw [hs m i xs[i] _ (List.getElem?_eq_getElem hlt) (by simp; omega)]
      rw [← ih (i + 1) m (by omega) (by omega)]
      congr 1
      rw [List.set_append, if_neg (by simp; omega), List.take_add_one, List.getElem?_eq_getElem hlt]
      simp only [List.length_map, List.length_take, Nat.min_eq_left (Nat.le_of_lt hlt), Nat.sub_self, List.replicate_succ, List.set_cons_zero, Option.toList_some, List.map_append, List.map_cons, List.map_nil, List.append_assoc, List.cons_append, List.nil_append]
  have := key xs.length 0 m (by omega) hm
  simpa using this
/-- The bulk of a list: its length and its elements' bulk. -/
def sumB {α : Type} (b : α → Nat) : List α → Nat
  | [] => 0
  | x :: xs => b x + sumB b xs
theorem sumB_mem {α : Type} {b : α → Nat} : ∀ {xs : List α} {x : α}, x ∈ xs → b x ≤ sumB b xs
  | y :: ys, x, h => by
    rcases List.mem_cons.1 h with e | e
    · rw [e]; simp [sumB]
    · have := sumB_mem (b := b) e
      simp only [sumB]; omega
/-- A loop that counts bulk down. -/
theorem loop_size {R α : Type} {xs : List α} {b : α → Nat} {r0 : Option R} {f : Nat → Int → Int → Option R} {Z : Int → Option R} {N : Int}
    (hs : ∀ m (a : Int) (i : Nat) x, xs[i]? = some x → 0 ≤ a → a ≤ N → f (m + 1) a (i : Int) = if (b x : Int) ≤ a then f m (a - b x) ((i + 1 : Nat) : Int) else r0)
    (he : ∀ m a, f (m + 1) a (xs.length : Int) = Z a) {m : Nat} (hm : xs.length < m) {a : Int} (h0 : 0 ≤ a) (hN : a ≤ N) :
    f m a 0 = if (sumB b xs : Int) ≤ a then Z (a - sumB b xs) else r0 := by
  have key : ∀ k i m a, i + k = xs.length → k < m → 0 ≤ a → a ≤ N → f m a (i : Int) = if (sumB b (xs.drop i) : Int) ≤ a then Z (a - sumB b (xs.drop i)) else r0 := by
    intro k
    induction k with
    | zero =>
      intro i m a hi hm h0 hN
      obtain ⟨m, rfl⟩ : ∃ q, m = q + 1 := ⟨m - 1, by omega⟩
      rw [show i = xs.length by omega, he, List.drop_length]
      simp [sumB, h0]
    | succ k ih =>
      intro i m a hi hm h0 hN
      obtain ⟨m, rfl⟩ : ∃ q, m = q + 1 := ⟨m - 1, by omega⟩
      have hlt : i < xs.length := by omega
      have e : (sumB b (xs.drop i) : Int) = b xs[i] + sumB b (xs.drop (i + 1)) := by
        rw [List.drop_eq_getElem_cons hlt]
        simp [sumB]
      rw [hs m a i xs[i] (List.getElem?_eq_getElem hlt) h0 hN, e]
      by_cases hb : (b xs[i] : Int) ≤ a
      · rw [if_pos hb, ih (i + 1) m _ (by omega) (by omega) (by omega) (by omega)]
        by_cases h1 : (sumB b (xs.drop (i + 1)) : Int) ≤ a - b xs[i]
        · rw [if_pos h1, if_pos (by omega)]
          congr 1; omega
        · rw [if_neg h1, if_neg (by omega)]
      · rw [if_neg hb, if_neg (by omega)]
  exact key xs.length 0 m a (by omega) hm h0 hN
end Go.Sx
namespace Go.Sx
open Go
/-- Two lists compared element by element. -/
theorem loop_eq {R α : Type} [BEq α] [LawfulBEq α] {xs ys : List α} {r0 Z : Option R} {f : Nat → Int → Option R} (hl : xs.length = ys.length)
    (hs : ∀ m (i : Nat) x y, xs[i]? = some x → ys[i]? = some y → f (m + 1) (i : Int) = bif x == y then f m ((i + 1 : Nat) : Int) else r0) (he : ∀ m, f (m + 1) (xs.length : Int) = Z) {m : Nat} (hm : xs.length < m) :
    f m 0 = bif xs == ys then Z else r0 := by
  rw [loop_all (n := xs.length) (g := fun i => match xs[i]?, ys[i]? with | some x, some y => x == y | _, _ => true) (f := f) (r0 := r0) (fun m i hi => by
    rw [hs m i xs[i] (ys[i]'(hl ▸ hi)) (List.getElem?_eq_getElem hi) (List.getElem?_eq_getElem (hl ▸ hi))]
    simp only [List.getElem?_eq_getElem hi, List.getElem?_eq_getElem (show i < ys.length from hl ▸ hi)]) he m hm]
  congr 1
  have hb : ∀ b c : Bool, (b = true ↔ c = true) → b = c := by decide
  apply hb
  rw [allN_iff, beq_iff_eq]
  constructor
  · intro h
    apply List.ext_getElem? 
    intro i
    by_cases hi : i < xs.length
    · have := h i (Nat.zero_le _) (by omega)
      simp only [List.getElem?_eq_getElem hi, List.getElem?_eq_getElem (show i < ys.length from hl ▸ hi), beq_iff_eq] at this ⊢
      rw [this]
    · rw [List.getElem?_eq_none (by omega), List.getElem?_eq_none (by omega)]
  · rintro rfl i _ hi
    simp only [List.getElem?_eq_getElem (show i < xs.length by omega), beq_self_eq_true]
/-- What fits a machine, and how bulky it is. -/
class Bk (α : Type) where
  fit : α → Prop
  bulk : α → Nat
instance : Bk Int := ⟨fun n => -9223372036854775808 ≤ n ∧ n ≤ 9223372036854775807, fun _ => 0⟩
instance : Bk Bool := ⟨fun _ => True, fun _ => 0⟩
instance : Bk Byte := ⟨fun _ => True, fun _ => 0⟩
instance : Bk Str := ⟨fun s => s.length ≤ maxi, fun s => s.length⟩
instance {α : Type} [Bk α] : Bk (List α) := ⟨fun xs => xs.length ≤ maxi ∧ ∀ x ∈ xs, Bk.fit x, fun xs => xs.length + sumB Bk.bulk xs⟩
section
variable {α : Type} [Bk α] {xs : List α} {x : α} {n i : Nat}
theorem fit_len (h : Bk.fit xs) : xs.length ≤ maxi := h.1
theorem fit_at (h : Bk.fit xs) (hx : xs[i]? = some x) : Bk.fit x := h.2 x (List.mem_of_getElem? hx)
theorem bulk_len (h : Bk.bulk xs ≤ n) : xs.length ≤ n := Nat.le_trans (Nat.le_add_right _ _) h
theorem bulk_at (h : Bk.bulk xs ≤ n) (hx : xs[i]? = some x) : Bk.bulk x ≤ n := Nat.le_trans (sumB_mem (List.mem_of_getElem? hx)) (Nat.le_trans (Nat.le_add_left _ _) h)
theorem bulk_mem (h : Bk.bulk xs ≤ n) (hx : x ∈ xs) : Bk.bulk x ≤ n := Nat.le_trans (sumB_mem hx) (Nat.le_trans (Nat.le_add_left _ _) h)
theorem to_maxi (h : n ≤ 1048576) : n ≤ maxi := by unfold maxi; omega
theorem to_lim (h : n ≤ 1048576) : n ≤ lim := by unfold lim; omega
end
theorem bne_len (a b : Nat) : ((a : Int) != (b : Int)) = !(a == b) := by
  simp only [bne]
  congr 1
  have : ∀ b c : Bool, (b = true ↔ c = true) → b = c := by decide
  apply this
  rw [beq_iff_eq, beq_iff_eq]; omega
end Go.Sx
namespace Go.Sx
open Go
/-- A loop that collects, of the elements of which p holds, what g makes of them. -/
theorem loop_filter {R α β : Type} {xs : List α} {p : α → Bool} {g : α → β} {f : Nat → List β → Int → Option R} {Z : List β → Option R}
    (hs : ∀ m (i : Nat) x acc, xs[i]? = some x → acc.length ≤ i → f (m + 1) acc (i : Int) = f m (bif p x then acc ++ [g x] else acc) ((i + 1 : Nat) : Int))
    (he : ∀ m acc, f (m + 1) acc (xs.length : Int) = Z acc) {m : Nat} (hm : xs.length < m) : f m [] 0 = Z ((xs.filter p).map g) := by
  have key : ∀ k i m acc, i + k = xs.length → k < m → acc.length ≤ i → f m acc (i : Int) = Z (acc ++ ((xs.drop i).filter p).map g) := by
    intro k
    induction k with
    | zero =>
      intro i m acc hi hm ha
      obtain ⟨m, rfl⟩ : ∃ q, m = q + 1 := ⟨m - 1, by omega⟩
      rw [show i = xs.length by omega, he, List.drop_length]
      simp
    | succ k ih =>
      intro i m acc hi hm ha
      obtain ⟨m, rfl⟩ : ∃ q, m = q + 1 := ⟨m - 1, by omega⟩
      have hlt : i < xs.length := by omega
      rw [hs m i xs[i] acc (List.getElem?_eq_getElem hlt) ha, List.drop_eq_getElem_cons hlt, List.filter_cons]
      cases hp : p xs[i] with
      | true =>
        rw [cond_true, ih (i + 1) m _ (by omega) (by omega) (by simp; omega)]
        simp
      | false =>
        rw [cond_false, ih (i + 1) m _ (by omega) (by omega) (by omega)]
        simp
  have := key xs.length 0 m [] (by omega) hm (by simp)
  simpa using this
/-- Each element turned, a number carried along. -/
def turnL {α : Type} (g : Int → α → Int × α) : Int → List α → Int × List α
  | k, [] => (k, [])
  | k, x :: xs => ((turnL g (g k x).1 xs).1, (g k x).2 :: (turnL g (g k x).1 xs).2)
theorem turnL_len {α : Type} (g : Int → α → Int × α) : ∀ (xs : List α) (k : Int), (turnL g k xs).2.length = xs.length
  | [], k => rfl
  | x :: xs, k => by simp [turnL, turnL_len g xs]
/-- A loop that turns each element in place. b: by how much an element carries the number on. -/
theorem loop_turn {R α : Type} {xs : List α} {g : Int → α → Int × α} {b : α → Nat} {N : Int} {f : Nat → Int → Int → List α → Option R} {Z : Int → List α → Option R}
    (hg : ∀ k x, (g k x).1 = k + b x)
    (hs : ∀ m (k : Int) (i : Nat) x out, xs[i]? = some x → out[i]? = some x → out.length = xs.length → 0 ≤ k → k + b x ≤ N → f (m + 1) k (i : Int) out = f m (g k x).1 ((i + 1 : Nat) : Int) (out.set i (g k x).2))
    (he : ∀ m k out, out.length = xs.length → f (m + 1) k (xs.length : Int) out = Z k out) {m : Nat} (hm : xs.length < m) {k : Int} (h0 : 0 ≤ k) (hN : k + sumB b xs ≤ N) :
    f m k 0 xs = Z (turnL g k xs).1 (turnL g k xs).2 := by
  have key : ∀ n i m k pre, i + n = xs.length → n < m → pre.length = i → 0 ≤ k → k + sumB b (xs.drop i) ≤ N → f m k (i : Int) (pre ++ xs.drop i) = Z (turnL g k (xs.drop i)).1 (pre ++ (turnL g k (xs.drop i)).2) := by
    intro n
    induction n with
    | zero =>
      intro i m k pre hi hm hp h0 hN
      obtain ⟨m, rfl⟩ : ∃ q, m = q + 1 := ⟨m - 1, by omega⟩
      have hii : i = xs.length := by omega
      subst hii
      rw [List.drop_length, he m k _ (by simp [hp])]
      simp [turnL]
    | succ n ih =>
      intro i m k pre hi hm hp h0 hN
      obtain ⟨m, rfl⟩ : ∃ q, m = q + 1 := ⟨m - 1, by omega⟩
      have hlt : i < xs.length := by omega
      have hd : xs.drop i = xs[i] :: xs.drop (i + 1) := List.drop_eq_getElem_cons hlt
      have hsum : sumB b (xs.drop i) = b xs[i] + sumB b (xs.drop (i + 1)) := by rw [hd]; rfl
      have hout : (pre ++ xs.drop i)[i]? = some xs[i] := by
        rw [List.getElem?_append_right (by omega), hp, Nat.sub_self, hd]; rfl
      rw [hs m k i xs[i] _ (List.getElem?_eq_getElem hlt) hout (by simp [hp]; omega) h0 (by omega)]
      have hset : (pre ++ xs.drop i).set i (g k xs[i]).2 = (pre ++ [(g k xs[i]).2]) ++ xs.drop (i + 1) := by
        rw [List.set_append, if_neg (by omega), hp, Nat.sub_self, hd]
        simp only [List.set_cons_zero, List.append_assoc, List.cons_append, List.nil_append]
      rw [hset, ih (i + 1) m _ _ (by omega) (by omega) (by simp [hp]) (by rw [hg]; omega) (by rw [hg]; omega)]
      rw [hd]
      simp only [turnL, List.append_assoc, List.cons_append, List.nil_append]
  have := key xs.length 0 m k [] (by omega) hm rfl h0 (by simpa using hN)
  simpa using this
/-- A loop that looks at each element, a number carried along. -/
theorem loop_held {R α : Type} {xs : List α} {q : Int → α → Prop} {b : α → Nat} {N : Int} {f : Nat → Int → Int → Option R} {Z : Int → Option R}
    (hs : ∀ m (k : Int) (i : Nat) x, xs[i]? = some x → q k x → 0 ≤ k → k + b x ≤ N → f (m + 1) k (i : Int) = f m (k + b x) ((i + 1 : Nat) : Int))
    (he : ∀ m k, f (m + 1) k (xs.length : Int) = Z k) {m : Nat} (hm : xs.length < m) {k : Int} (h0 : 0 ≤ k) (hN : k + sumB b xs ≤ N)
    (hq : ∀ (i : Nat) x, xs[i]? = some x → q (k + sumB b (xs.take i)) x) : f m k 0 = Z (k + sumB b xs) := by
  have key : ∀ n i m, i + n = xs.length → n < m → f m (k + sumB b (xs.take i)) (i : Int) = Z (k + sumB b xs) := by
    intro n
    induction n with
    | zero =>
      intro i m hi hm
      obtain ⟨m, rfl⟩ : ∃ q, m = q + 1 := ⟨m - 1, by omega⟩
      have hii : i = xs.length := by omega
      subst hii
      rw [he, List.take_length]
    | succ n ih =>
      intro i m hi hm
      obtain ⟨m, rfl⟩ : ∃ q, m = q + 1 := ⟨m - 1, by omega⟩
      have hlt : i < xs.length := by omega
      have happ : ∀ (ys zs : List α), sumB b (ys ++ zs) = sumB b ys + sumB b zs := by
        intro ys zs
        induction ys with
        | nil => simp [sumB]
        | cons y ys ih => simp only [List.cons_append, sumB, ih]; omega
      have h1 : sumB b (xs.take (i + 1)) = sumB b (xs.take i) + b xs[i] := by
        rw [List.take_add_one, List.getElem?_eq_getElem hlt, happ]
        simp [sumB]
      have h2 : sumB b xs = sumB b (xs.take (i + 1)) + sumB b (xs.drop (i + 1)) := by
        rw [← happ, List.take_append_drop]
      rw [hs m _ i xs[i] (List.getElem?_eq_getElem hlt) (hq i _ (List.getElem?_eq_getElem hlt)) (by omega) (by omega)]
      have := ih (i + 1) m (by omega) (by omega)
      rw [h1] at this
      rw [← this]
      congr 1
      omega
  have := key xs.length 0 m (by omega) hm
  simpa [sumB] using this
theorem sumB_le {α : Type} {b c : α → Nat} (h : ∀ x, b x ≤ c x) : ∀ xs : List α, sumB b xs ≤ sumB c xs
  | [] => Nat.le_refl _
  | x :: xs => by have := h x; have := sumB_le h xs; simp only [sumB]; omega
theorem sumB_filter {α : Type} {b : α → Nat} {p : α → Bool} : ∀ xs : List α, sumB b (xs.filter p) ≤ sumB b xs
  | [] => Nat.le_refl _
  | x :: xs => by
    have := sumB_filter (b := b) (p := p) xs
    rw [List.filter_cons]
    cases p x <;> simp [sumB] <;> omega
theorem sumB_app {α : Type} {b : α → Nat} : ∀ (ys zs : List α), sumB b (ys ++ zs) = sumB b ys + sumB b zs
  | [], zs => by simp [sumB]
  | y :: ys, zs => by simp only [List.cons_append, sumB, sumB_app ys]; omega
theorem apN {α : Type} {xs : List α} (h : xs.length ≤ 1048576) : apM ([] : List α) xs = some xs := by
  rw [apM_of (by simp [lim]; omega), List.nil_append]
theorem ap1 {α : Type} {xs : List α} {x : α} (h : xs.length ≤ 1048576) : apM xs [x] = some (xs ++ [x]) := apM_of (by simp [lim]; omega)
theorem bulkL {α : Type} [Bk α] (xs : List α) : Bk.bulk xs = xs.length + sumB Bk.bulk xs := rfl
theorem chM_of {s : Str} {i : Nat} {c : UInt8} (h : s[i]? = some c) : chM s (i : Int) = some c := gi_of h
theorem setAt {α : Type} {xs : List α} {i : Nat} {y : α} (h : i < xs.length) : (xs.set i y)[i]? = some y := by simp [h]
theorem gi_some' {α : Type} {xs : List α} {i : Int} (h0 : 0 ≤ i) (h1 : i < xs.length) : ∃ x, gi xs i = some x := by
  unfold gi
  rw [if_pos h0]
  exact ⟨xs[i.toNat]'(by omega), List.getElem?_eq_getElem (by omega)⟩
theorem slM_of {α : Type} {xs : List α} {l h : Int} (h0 : 0 ≤ l) (h1 : l ≤ h) (h2 : h ≤ xs.length) : slM xs l h = some ((xs.take h.toNat).drop l.toNat) := by
  unfold slM
  rw [if_pos ⟨h0, h1, h2⟩]
end Go.Sx
