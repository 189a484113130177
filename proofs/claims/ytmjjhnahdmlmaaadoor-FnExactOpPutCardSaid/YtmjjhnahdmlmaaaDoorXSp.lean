/- Plain words of the models: what the Go text's slices, numbers and strings are as lists. Conditions: none. -/
import GoSem.Op.String
import GoSem.Core.View
namespace Go.Sx
open Go
set_option linter.unusedSimpArgs false
set_option linter.unusedVariables false

abbrev Str := List UInt8
def Byte : Type := UInt8
abbrev w64 (n : Int) : Int := IntKind.i64.wrap n
def i64 (n : Int) : Prop := -9223372036854775808 ≤ n ∧ n ≤ 9223372036854775807
def lim : Nat := 4294967296
/-- xs[i]; none where the index is out of range. -/
def gi {α : Type} (xs : List α) (i : Int) : Option α := if 0 ≤ i then xs[i.toNat]? else none
/-- append(xs, ys...). -/
def apM {α : Type} (xs ys : List α) : Option (List α) := if xs.length + ys.length ≤ lim then some (xs ++ ys) else none
/-- make([]T, n). -/
def mkM {α : Type} (n : Int) (z : α) : Option (List α) := if 0 ≤ n ∧ n ≤ lim then some (List.replicate n.toNat z) else none
/-- xs[i] = x; none where the index is out of range. -/
def siM {α : Type} (xs : List α) (i : Int) (x : α) : Option (List α) := if 0 ≤ i ∧ i < xs.length then some (xs.set i.toNat x) else none
/-- xs[l:h], within the length. -/
def slM {α : Type} (xs : List α) (l h : Int) : Option (List α) := if 0 ≤ l ∧ l ≤ h ∧ h ≤ xs.length then some ((xs.take h.toNat).drop l.toNat) else none
/-- s + t. -/
def saM (s t : Str) : Option Str := if s.length + t.length ≤ lim then some (s ++ t) else none
/-- s[i]. -/
def chM (s : Str) (i : Int) : Option UInt8 := gi s i

/-- A continuation by name. -/
def jn {κ ρ : Type} (k : κ) (f : κ → ρ) : ρ := f k
theorem jn_e {κ ρ : Type} {k : κ} {f : κ → ρ} {r : ρ} (h : jn k f = r) : ∃ K, K = k ∧ f K = r := ⟨k, rfl, h⟩
/-- Sorted, as the library sorts; and each run of equal ones once. -/
def sortStr (xs : List Str) : List Str := xs.mergeSort fun x y => decide (x ≤ y)
def dedupF : Option Str → List Str → List Str
  | _, [] => []
  | p, x :: l => if p = some x then dedupF (some x) l else x :: dedupF (some x) l
def dedup (xs : List Str) : List Str := dedupF none xs
/-- max(a, b), min(a, b). -/
def maxI (a b : Int) : Int := if a < b then b else a
def minI (a b : Int) : Int := if b < a then b else a
/-- byte(n). -/
def by8 (n : Int) : UInt8 := UInt8.ofNat (n % 256).toNat
def xor64 (a b : Int) : Int := IntKind.i64.wrap (BitVec.ofInt 64 a ^^^ BitVec.ofInt 64 b).toNat

theorem gi_some {α : Type} {xs : List α} {i : Int} {x : α} (h : gi xs i = some x) : 0 ≤ i ∧ xs[i.toNat]? = some x ∧ i.toNat < xs.length := by
  unfold gi at h
  split at h
  · exact ⟨by assumption, h, (List.getElem?_eq_some_iff.1 h).1⟩
  · cases h
theorem ob {α β : Type} {o : Option α} {f : α → Option β} {r : β} (h : o.bind f = some r) : ∃ x, o = some x ∧ f x = some r := Option.bind_eq_some_iff.1 h
theorem bt {α : Type} {c : Bool} {x y : α} {r : α} (h : (bif c then x else y) = r) (hc : c = true) : x = r := by rw [hc] at h; exact h
theorem bf {α : Type} {c : Bool} {x y : α} {r : α} (h : (bif c then x else y) = r) (hc : c = false) : y = r := by rw [hc] at h; exact h
theorem sm {α : Type} {x y : α} (h : some x = some y) : x = y := Option.some.inj h
end Go.Sx
