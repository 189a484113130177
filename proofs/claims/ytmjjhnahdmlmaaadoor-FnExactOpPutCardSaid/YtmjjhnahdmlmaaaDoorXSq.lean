/- Short forms of the rules that the walks use most. Conditions: each rule's own premises. -/
import Derived.Test.YtmjjhnahdmlmaaaDoorXSr
namespace Go.Sx
open Go Go.RowKit Rp
set_option linter.unusedSimpArgs false
set_option linter.unusedVariables false
set_option linter.unusedSectionVars false

section
variable {A B C : CW} {L : List Nat}
theorem Le.t (a : Le LL A B) (l : Le L B C) (h : subL L LL = true) : Le LL A C := a.trans (l.sub h)
theorem Le.n (a : Le LL A B) (l : Le [] B C) : Le LL A C := a.trans l.nil
theorem Le.s (l : Le L A B) (h : subL L LL = true) : Le LL A B := l.sub h
theorem Le.o (l : Le [] A B) : Le LL A B := l.nil
end
/-- An operand's value, for a place that is there. -/
def ev1 (n d : Nat) (ρ : Env) (x : Operand) : Option Value := bif Nat.blt d n then some (ev ρ x) else none
def ev2 (n d : Nat) (ρ : Env) (x y : Operand) : Option (Value × Value) := bif Nat.blt d n then some (ev ρ x, ev ρ y) else none
section
variable {P : Program} {n d : Nat} {ρ : Env} {w : World} {ops : Array Oper} {rest : List Oper} {Q : Env → World → Prop} {ty : TypeId} {pos : String} {af : Array Edge} {x y c : Operand} {v v' : Value} {t t' : TypeId} {k : IntKind} {a b : Int}
theorem ev1_of (h : ev1 n d ρ x = some v) : Nat.blt d n = true ∧ ev ρ x = v := by
  unfold ev1 at h
  cases hd : Nat.blt d n with
  | false => rw [hd] at h; cases h
  | true => rw [hd] at h; exact ⟨rfl, Option.some.inj h⟩
theorem ev2_of (h : ev2 n d ρ x y = some (v, v')) : Nat.blt d n = true ∧ ev ρ x = v ∧ ev ρ y = v' := by
  unfold ev2 at h
  cases hd : Nat.blt d n with
  | false => rw [hd] at h; cases h
  | true => rw [hd] at h; have := Option.some.inj h; exact ⟨rfl, congrArg Prod.fst this, congrArg Prod.snd this⟩
theorem Lw.m (v : Value) (e : ev1 n d ρ x = some v) (h : Lw P n ops rest Q (ρ.up d v) w) : Lw P n ops (⟨some d, .move x, ty, pos, af, none⟩ :: rest) Q ρ w :=
  Lw.r (ev1_of e).1 (R.mv (ev1_of e).2) h
theorem Lw.g (v : Value) (e : ev1 n d ρ x = some v) (h : Lw P n ops rest Q (ρ.up d v) w) : Lw P n ops (⟨some d, .assign x, ty, pos, af, none⟩ :: rest) Q ρ w :=
  Lw.r (ev1_of e).1 (R.as (ev1_of e).2) h
theorem Lw.p {q b : Bool} (hq : q = b) (v : Value) (e : ev2 n d ρ c (bif b then x else y) = some (.bool q, v)) (h : Lw P n ops rest Q (ρ.up d v) w) : Lw P n ops (⟨some d, .pick c x y, ty, pos, af, none⟩ :: rest) Q ρ w :=
  Lw.r (ev2_of e).1 (R.pk hq (ev2_of e).2.1 (ev2_of e).2.2) h
theorem Lw.add (e : ev2 n d ρ x y = some (.int k a, .int k b)) (h : Lw P n ops rest Q (ρ.up d (.int k (k.wrap (a + b)))) w) : Lw P n ops (⟨some d, .binOp .add t x y t', ty, pos, af, none⟩ :: rest) Q ρ w :=
  Lw.r (ev2_of e).1 (R.add (ev2_of e).2.1 (ev2_of e).2.2) h
theorem Lw.sub (e : ev2 n d ρ x y = some (.int k a, .int k b)) (h : Lw P n ops rest Q (ρ.up d (.int k (k.wrap (a - b)))) w) : Lw P n ops (⟨some d, .binOp .sub t x y t', ty, pos, af, none⟩ :: rest) Q ρ w :=
  Lw.r (ev2_of e).1 (R.sub (ev2_of e).2.1 (ev2_of e).2.2) h
theorem Lw.eq (e : ev2 n d ρ x y = some (.int k a, .int k b)) (h : Lw P n ops rest Q (ρ.up d (.bool (a == b))) w) : Lw P n ops (⟨some d, .binOp .eql t x y t', ty, pos, af, none⟩ :: rest) Q ρ w :=
  Lw.r (ev2_of e).1 (R.eq (ev2_of e).2.1 (ev2_of e).2.2) h
theorem Lw.ne (e : ev2 n d ρ x y = some (.int k a, .int k b)) (h : Lw P n ops rest Q (ρ.up d (.bool (a != b))) w) : Lw P n ops (⟨some d, .binOp .neq t x y t', ty, pos, af, none⟩ :: rest) Q ρ w :=
  Lw.r (ev2_of e).1 (R.ne (ev2_of e).2.1 (ev2_of e).2.2) h
theorem Lw.lt (e : ev2 n d ρ x y = some (.int k a, .int k b)) (h : Lw P n ops rest Q (ρ.up d (.bool (decide (a < b)))) w) : Lw P n ops (⟨some d, .binOp .lss t x y t', ty, pos, af, none⟩ :: rest) Q ρ w :=
  Lw.r (ev2_of e).1 (R.lt (ev2_of e).2.1 (ev2_of e).2.2) h
theorem Lw.le (e : ev2 n d ρ x y = some (.int k a, .int k b)) (h : Lw P n ops rest Q (ρ.up d (.bool (decide (a ≤ b)))) w) : Lw P n ops (⟨some d, .binOp .leq t x y t', ty, pos, af, none⟩ :: rest) Q ρ w :=
  Lw.r (ev2_of e).1 (R.le (ev2_of e).2.1 (ev2_of e).2.2) h
theorem Lw.gt (e : ev2 n d ρ x y = some (.int k a, .int k b)) (h : Lw P n ops rest Q (ρ.up d (.bool (decide (b < a)))) w) : Lw P n ops (⟨some d, .binOp .gtr t x y t', ty, pos, af, none⟩ :: rest) Q ρ w :=
  Lw.r (ev2_of e).1 (R.gt (ev2_of e).2.1 (ev2_of e).2.2) h
theorem Lw.ge (e : ev2 n d ρ x y = some (.int k a, .int k b)) (h : Lw P n ops rest Q (ρ.up d (.bool (decide (b ≤ a)))) w) : Lw P n ops (⟨some d, .binOp .geq t x y t', ty, pos, af, none⟩ :: rest) Q ρ w :=
  Lw.r (ev2_of e).1 (R.ge (ev2_of e).2.1 (ev2_of e).2.2) h
theorem Lw.seq {s r : Str} (e : ev2 n d ρ x y = some (vS s, vS r)) (h : Lw P n ops rest Q (ρ.up d (.bool (s == r))) w) : Lw P n ops (⟨some d, .binOp .eql t x y t', ty, pos, af, none⟩ :: rest) Q ρ w :=
  Lw.r (ev2_of e).1 (R.seq (ev2_of e).2.1 (ev2_of e).2.2) h
theorem Lw.sne {s r : Str} (e : ev2 n d ρ x y = some (vS s, vS r)) (h : Lw P n ops rest Q (ρ.up d (.bool (s != r))) w) : Lw P n ops (⟨some d, .binOp .neq t x y t', ty, pos, af, none⟩ :: rest) Q ρ w :=
  Lw.r (ev2_of e).1 (R.sne (ev2_of e).2.1 (ev2_of e).2.2) h
theorem Lw.fa {s f off : Nat} [hF : Fld P s f off] {p : Addr} (e : ev1 n d ρ x = some (.pointer (some p))) (h : Lw P n ops rest Q (ρ.up d (.pointer (some (p.add off)))) w) : Lw P n ops (⟨some d, .fieldAddr s x f, ty, pos, af, none⟩ :: rest) Q ρ w :=
  Lw.r (ev1_of e).1 (R.fa (ev1_of e).2) h
theorem Lw.ln {α : Type} [Rp α] {e' : TypeId} [hU : Und P t (.slice e')] {W : CW} {K : List Nat} (xs : List α) (hr : Rd W K [v] xs) (e : ev1 n d ρ x = some v) (h : Lw P n ops rest Q (ρ.up d (vI xs.length)) W.w) : Lw P n ops (⟨some d, .call ⟨.builtin .len, #[x], #[t]⟩, ty, pos, af, none⟩ :: rest) Q ρ W.w :=
  Lw.r (ev1_of e).1 (lenR hr (ev1_of e).2) h
end
end Go.Sx
