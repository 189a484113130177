/- Marks: how the statements write over what was handed back, and look whether it stays. Conditions: each law's own premises. -/
import Derived.Test.YtmjjhnahdmlmaaaDoorXPl
import Derived.Test.YtmjjhnahdmlmaaaDoorXBk
namespace Go.Sx
open Go
set_option linter.unusedSimpArgs false
set_option linter.unusedVariables false

/-- A way to write marks over an α, from a number on. -/
structure MkD (α : Type) where
  wr : Int → α → Int × α
  cn : α → Nat
  fst : ∀ k x, (wr k x).1 = k + cn x
  idem : ∀ k x, (wr k (wr k x).2).2 = (wr k x).2
  cnt : ∀ k x, cn (wr k x).2 = cn x
namespace MkD
variable {α β : Type}
theorem pair_eq (d : MkD α) (k : Int) (x : α) : d.wr k x = (k + d.cn x, (d.wr k x).2) := by
  rw [← d.fst k x]
/-- What is not marked. -/
def keep : MkD α := ⟨fun k x => (k, x), fun _ => 0, fun k x => by simp, fun _ _ => rfl, fun _ _ => rfl⟩
/-- One mark: what it is, is told by the number alone. -/
def one (f : Int → α) : MkD α := ⟨fun k _ => (k + 1, f k), fun _ => 1, fun _ _ => rfl, fun _ _ => rfl, fun _ _ => rfl⟩
def pair (a : MkD α) (b : MkD β) : MkD (α × β) :=
  ⟨fun k x => ((b.wr (a.wr k x.1).1 x.2).1, ((a.wr k x.1).2, (b.wr (a.wr k x.1).1 x.2).2)), fun x => a.cn x.1 + b.cn x.2, fun k x => by simp only [a.fst, b.fst]; omega,
   fun k x => by
    have : (a.wr k (a.wr k x.1).2).1 = (a.wr k x.1).1 := by rw [a.fst, a.fst, a.cnt]
    simp only [a.idem, this, b.idem], fun k x => by simp only [a.cnt, b.cnt]⟩
def via (a : MkD α) (f : β → α) (g : α → β) (hfg : ∀ x, f (g x) = x) : MkD β :=
  ⟨fun k x => ((a.wr k (f x)).1, g (a.wr k (f x)).2), fun x => a.cn (f x), fun k x => a.fst k (f x), fun k x => by simp only [hfg, a.idem], fun k x => by simp only [hfg, a.cnt]⟩
theorem turn_fst (d : MkD α) : ∀ (xs : List α) (k : Int), (turnL d.wr k xs).1 = k + sumB d.cn xs
  | [], k => by simp [turnL, sumB]
  | x :: xs, k => by simp only [turnL, turn_fst d xs, sumB, d.fst]; omega
theorem turn_cnt (d : MkD α) : ∀ (xs : List α) (k : Int), sumB d.cn (turnL d.wr k xs).2 = sumB d.cn xs
  | [], k => rfl
  | x :: xs, k => by simp only [turnL, sumB, d.cnt, turn_cnt d xs]
theorem turn_idem (d : MkD α) : ∀ (xs : List α) (k : Int), (turnL d.wr k (turnL d.wr k xs).2).2 = (turnL d.wr k xs).2
  | [], k => rfl
  | x :: xs, k => by
    have : (d.wr k (d.wr k x).2).1 = (d.wr k x).1 := by rw [d.fst, d.fst, d.cnt]
    simp only [turnL, d.idem, this, turn_idem d xs]
def list (d : MkD α) : MkD (List α) := ⟨turnL d.wr, sumB d.cn, fun k xs => turn_fst d xs k, fun k xs => turn_idem d xs k, fun k xs => turn_cnt d xs k⟩
theorem again (d : MkD α) (k : Int) (x : α) : (d.wr k (d.wr k x).2).1 = (d.wr k x).1 := by rw [d.fst, d.fst, d.cnt]
/-- It bears its marks from k on. -/
def Held (d : MkD α) (k : Int) (x : α) : Prop := (d.wr k x).2 = x
theorem held_wr (d : MkD α) (k : Int) (x : α) : d.Held k (d.wr k x).2 := d.idem k x
theorem turn_held (d : MkD α) : ∀ (xs : List α) (k : Int), (turnL d.wr k xs).2 = xs → ∀ (i : Nat) x, xs[i]? = some x → d.Held (k + sumB d.cn (xs.take i)) x
  | [], k, h, i, x, hx => by simp at hx
  | y :: xs, k, h, 0, x, hx => by
    have e : y = x := by simpa using hx
    subst e
    simp only [turnL, List.cons.injEq] at h
    simpa [sumB, Held] using h.1
  | y :: xs, k, h, i + 1, x, hx => by
    simp only [turnL, List.cons.injEq] at h
    have := turn_held d xs _ h.2 i x (by simpa using hx)
    rw [d.fst] at this
    simp only [List.take_succ_cons, sumB]
    have e : k + ((d.cn y + sumB d.cn (xs.take i) : Nat) : Int) = k + (d.cn y : Int) + (sumB d.cn (xs.take i) : Nat) := by omega
    rw [e]
    exact this
theorem list_held (d : MkD α) {xs : List α} {k : Int} (h : d.list.Held k xs) : ∀ (i : Nat) x, xs[i]? = some x → d.Held (k + sumB d.cn (xs.take i)) x := turn_held d xs k h
instance [Bk α] [Bk β] : Bk (α × β) := ⟨fun p => Bk.fit p.1 ∧ Bk.fit p.2, fun p => Bk.bulk p.1 + Bk.bulk p.2⟩
/-- What is marked still fits. -/
def Fits [Bk α] (d : MkD α) : Prop := ∀ (k : Int) (x : α), 0 ≤ k → k + d.cn x ≤ 536870912 → Bk.fit x → Bk.fit (d.wr k x).2
theorem turn_fits [Bk α] {d : MkD α} (h : d.Fits) : ∀ (xs : List α) (k : Int), 0 ≤ k → k + sumB d.cn xs ≤ 536870912 → (∀ x ∈ xs, Bk.fit x) → ∀ y ∈ (turnL d.wr k xs).2, Bk.fit y
  | [], k, _, _, _, y, hy => by simp [turnL] at hy
  | x :: xs, k, h0, hN, hx, y, hy => by
    simp only [turnL, List.mem_cons] at hy
    simp only [sumB] at hN
    rcases hy with e | e
    · rw [e]; exact h k x h0 (by omega) (hx x (by simp))
    · exact turn_fits h xs _ (by rw [d.fst]; omega) (by rw [d.fst]; omega) (fun z hz => hx z (by simp [hz])) y e
theorem fits_list [Bk α] {d : MkD α} (h : d.Fits) : d.list.Fits := fun k xs h0 hN hx => ⟨by show (turnL d.wr k xs).2.length ≤ maxi; rw [turnL_len]; exact hx.1, turn_fits h xs k h0 hN hx.2⟩
theorem fits_keep [Bk α] : (keep : MkD α).Fits := fun _ _ _ _ h => h
theorem fits_one [Bk α] {f : Int → α} (h : ∀ k : Int, 0 ≤ k → k ≤ 536870912 → Bk.fit (f k)) : (one f).Fits := fun k _ h0 hN _ => h k h0 (by have : k + 1 ≤ 536870912 := hN; omega)
theorem fits_pair [Bk α] [Bk β] {a : MkD α} {b : MkD β} (ha : a.Fits) (hb : b.Fits) : (pair a b).Fits := fun k x h0 hN hx => by
  have e := a.fst k x.1
  have hc : (pair a b).cn x = a.cn x.1 + b.cn x.2 := rfl
  exact ⟨ha _ _ h0 (by omega) hx.1, hb _ _ (by omega) (by omega) hx.2⟩
theorem fits_via [Bk α] [Bk β] {a : MkD α} {f : β → α} {g : α → β} {hfg : ∀ x, f (g x) = x} (h : a.Fits) (hf : ∀ x, Bk.fit x → Bk.fit (f x)) (hg : ∀ x, Bk.fit x → Bk.fit (g x)) : (via a f g hfg).Fits := fun k x h0 hN hx => hg _ (h k _ h0 hN (hf _ hx))
/-- Marks are few. -/
def Few [Bk α] (d : MkD α) (c : Nat) : Prop := ∀ x, d.cn x ≤ c * Bk.bulk x + c
theorem few_keep [Bk α] : (keep : MkD α).Few 0 := fun _ => by show 0 ≤ _; omega
theorem few_one [Bk α] {f : Int → α} : (one f).Few 1 := fun _ => by show 1 ≤ _; omega
theorem few_pair [Bk α] [Bk β] {a : MkD α} {b : MkD β} {c d : Nat} (ha : a.Few c) (hb : b.Few d) : (pair a b).Few (c + d) := fun x => by
  have h1 := ha x.1
  have h2 := hb x.2
  have hc : (pair a b).cn x = a.cn x.1 + b.cn x.2 := rfl
  have hk : Bk.bulk x = Bk.bulk x.1 + Bk.bulk x.2 := rfl
  rw [hc, hk, Nat.add_mul, Nat.mul_add, Nat.mul_add]
  omega
theorem few_via [Bk α] [Bk β] {a : MkD α} {f : β → α} {g : α → β} {hfg : ∀ x, f (g x) = x} {c : Nat} (h : a.Few c) (hf : ∀ x, Bk.bulk (f x) = Bk.bulk x) : (via a f g hfg).Few c := fun x => by
  have := h (f x)
  rw [hf] at this
  exact this
theorem few_list [Bk α] {d : MkD α} {c : Nat} (h : d.Few c) : d.list.Few c := fun xs => by
  show sumB d.cn xs ≤ c * Bk.bulk xs + c
  have : sumB d.cn xs ≤ c * (xs.length + sumB Bk.bulk xs) := by
    induction xs with
    | nil => simp [sumB]
    | cons x xs ih =>
      have := h x
      simp only [sumB, List.length_cons, Nat.mul_add, Nat.mul_one] at ih ⊢
      omega
  rw [bulkL]
  omega
end MkD
end Go.Sx
