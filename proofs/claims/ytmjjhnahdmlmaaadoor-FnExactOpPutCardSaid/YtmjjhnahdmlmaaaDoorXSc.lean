/- One operation at a time: what it yields, by its kind. Conditions: none; each rule's own premises. -/
import Derived.Test.YtmjjhnahdmlmaaaDoorXSb
namespace Go.Sx
open Go Go.RowKit Rp
set_option linter.unusedSimpArgs false
set_option linter.unusedVariables false

class Und (P : Program) (t : TypeId) (d : outParam TypeDesc) : Prop where
  h : P.underlying t = some d
class Inf (P : Program) (t : TypeId) (s b : outParam Nat) (z : outParam Value) : Prop where
  h : (P.info? t).map (fun i => (i.zero, i.size, i.bytes)) = some (some z, s, b)
class Fld (P : Program) (s f : Nat) (off : outParam Nat) : Prop where
  h : ∃ fs fd i, P.underlying s = some (.struct fs) ∧ fs[f]? = some fd ∧ fd.offset = off ∧ P.info? fd.type = some i ∧ i.size ≠ 0
/-- The program's row of function f. -/
class Fun (P : Program) (f : FuncId) : Prop where
  h : ∃ fn, P.funcs[f]? = some fn ∧ fn.body.isNone = false ∧ (fn.name == "runtime.NumGoroutine") = false

def Run (P : Program) (ρ : Env) (w : World) (op : Op) (ty : TypeId) (v : Value) : Prop := ∀ o : Oper, o.op = op → o.type = ty → (execOp (ev ρ) o).run P w = .ok (.value v) w
/-- The operation, run in w, yields a value and a world of which R holds. -/
def Tr (P : Program) (ρ : Env) (w : World) (op : Op) (ty : TypeId) (R : Value → World → Prop) : Prop :=
  ∀ o : Oper, o.op = op → o.type = ty → ∀ (a : Act) (K : Act → World → Prop) (Q : Exit → Act → World → Prop), a.eval = ev ρ → (∀ v w', R v w' → K (a.put o.dst v) w') → o.wp P a w K Q
section
variable {P : Program} {n : Nat} {Q : Env → World → Prop} {ρ : Env} {w w' : World} {ops : Array Oper} {rest : List Oper} {op : Op} {ty d : Nat} {pos : String} {af : Array Edge} {R : Value → World → Prop} {v : Value}
theorem Run.tr (h : Run P ρ w op ty v) : Tr P ρ w op ty (fun u w' => u = v ∧ w' = w) := fun o h1 h2 a K Q ha hk => by
  unfold Oper.wp
  rw [ha, h o h1 h2]
  exact hk _ _ ⟨rfl, rfl⟩
theorem Tr.of_run (h : ∀ o : Oper, o.op = op → o.type = ty → ∃ v w', (execOp (ev ρ) o).run P w = .ok (.value v) w' ∧ R v w') : Tr P ρ w op ty R := fun o h1 h2 a K Q ha hk => by
  obtain ⟨v, w', hr, hR⟩ := h o h1 h2
  unfold Oper.wp
  rw [ha, hr]
  exact hk _ _ hR
theorem Tr.of_unit (h : ∀ o : Oper, o.op = op → o.type = ty → ∃ w', (execOp (ev ρ) o).run P w = .ok .skip w' ∧ R undef w') : Tr P ρ w op ty R := fun o h1 h2 a K Q ha hk => by
  obtain ⟨w', hr, hR⟩ := h o h1 h2
  unfold Oper.wp
  rw [ha, hr]
  exact hk _ _ hR
theorem Tr.mono {R' : Value → World → Prop} (h : Tr P ρ w op ty R) (hr : ∀ v w', R v w' → R' v w') : Tr P ρ w op ty R' := fun o h1 h2 a K Q ha hk => h o h1 h2 a K Q ha fun v w' hR => hk v w' (hr v w' hR)
theorem Lw.r (hd : Nat.blt d n = true) (hr : Run P ρ w op ty v) (h : Lw P n ops rest Q (ρ.up d v) w) : Lw P n ops (⟨some d, op, ty, pos, af, none⟩ :: rest) Q ρ w :=
  Lw.value rfl rfl hd (hr _ rfl rfl) h
theorem Lw.t (hd : Nat.blt d n = true) (hr : Tr P ρ w op ty R) (h : ∀ v w', R v w' → Lw P n ops rest Q (ρ.up d v) w') : Lw P n ops (⟨some d, op, ty, pos, af, none⟩ :: rest) Q ρ w := fun a ha =>
  wpList_plain rfl fun K hK => hr _ rfl rfl a K _ ha.evalF fun v w' hR => hK _ _ (h v w' hR _ (ha.put hd v))
theorem Lw.u (hr : Tr P ρ w op ty R) (h : ∀ v w', R v w' → Lw P n ops rest Q ρ w') : Lw P n ops (⟨none, op, ty, pos, af, none⟩ :: rest) Q ρ w := fun a ha =>
  wpList_plain rfl fun K hK => hr _ rfl rfl a K _ ha.evalF fun v w' hR => hK _ _ (h v w' hR _ ha)

/-! ### Operations that touch no memory -/
variable {x y c : Operand} {t t' : TypeId} {k : IntKind} {a b : Int}
theorem R.mv (h : ev ρ x = v) : Run P ρ w (.move x) ty v := fun o h1 _ => by simp only [execOp, h1, h]; rfl
theorem R.as (h : ev ρ x = v) : Run P ρ w (.assign x) ty v := fun o h1 _ => by simp only [execOp, h1, h]; rfl
theorem R.pick {q : Bool} (hc : ev ρ c = .bool q) (hx : q = true → ev ρ x = v) (hy : q = false → ev ρ y = v) : Run P ρ w (.pick c x y) ty v := fun o h1 _ => by
  cases q with
  | true => simp [execOp, h1, hc, asBool, hx rfl]
  | false => simp [execOp, h1, hc, asBool, hy rfl]
theorem R.bin {op : BinOp} {u u' : Value} (hx : ev ρ x = u) (hy : ev ρ y = u') (hg : (eqGuard op t x y u u').run P w = .ok () w) (hr : (binOp op t u u').run P w = .ok v w) : Run P ρ w (.binOp op t x y t') ty v := fun o h1 _ => by
  simp [execOp, h1, hx, hy, hg, hr]
theorem guard_int (op : BinOp) (t : TypeId) (x y : Operand) (k : IntKind) (a : Int) (u : Value) (w : World) : (eqGuard op t x y (.int k a) u).run P w = .ok () w := by rw [eqGuard_at_int]; rfl
theorem guard_str (op : BinOp) (t : TypeId) (x y : Operand) (s : ByteArray) (u : Value) (w : World) : (eqGuard op t x y (.string s) u).run P w = .ok () w := by rw [eqGuard_at_string]; rfl
theorem guard_bool (op : BinOp) (t : TypeId) (x y : Operand) (s : Bool) (u : Value) (w : World) : (eqGuard op t x y (.bool s) u).run P w = .ok () w := by rw [eqGuard_at_bool]; rfl
section ints
variable (hx : ev ρ x = .int k a) (hy : ev ρ y = .int k b)
include hx hy
theorem R.add : Run P ρ w (.binOp .add t x y t') ty (.int k (k.wrap (a + b))) := R.bin hx hy (guard_int ..) (by simp [binOp, Op.intArith])
theorem R.sub : Run P ρ w (.binOp .sub t x y t') ty (.int k (k.wrap (a - b))) := R.bin hx hy (guard_int ..) (by simp [binOp, Op.intArith])
theorem R.mul : Run P ρ w (.binOp .mul t x y t') ty (.int k (k.wrap (a * b))) := R.bin hx hy (guard_int ..) (by simp [binOp, Op.intArith])
theorem R.quo (hb : b ≠ 0) : Run P ρ w (.binOp .quo t x y t') ty (.int k (k.wrap (a.tdiv b))) := R.bin hx hy (guard_int ..) (by simp [binOp, Op.intDiv, hb])
theorem R.rem (hb : b ≠ 0) : Run P ρ w (.binOp .rem t x y t') ty (.int k (a.tmod b)) := R.bin hx hy (guard_int ..) (by simp [binOp, Op.intDiv, hb])
theorem R.xor : Run P ρ w (.binOp .xor t x y t') ty (.int k (k.wrap (BitVec.ofInt k.bits a ^^^ BitVec.ofInt k.bits b).toNat)) := R.bin hx hy (guard_int ..) (by simp [binOp, Op.intBits])
theorem R.eq : Run P ρ w (.binOp .eql t x y t') ty (.bool (a == b)) := R.bin hx hy (guard_int ..) (by simp [binOp, Op.intCmp])
theorem R.ne : Run P ρ w (.binOp .neq t x y t') ty (.bool (a != b)) := R.bin hx hy (guard_int ..) (by simp [binOp, Op.intCmp])
theorem R.lt : Run P ρ w (.binOp .lss t x y t') ty (.bool (decide (a < b))) := R.bin hx hy (guard_int ..) (by simp [binOp, Op.intCmp])
theorem R.le : Run P ρ w (.binOp .leq t x y t') ty (.bool (decide (a ≤ b))) := R.bin hx hy (guard_int ..) (by simp [binOp, Op.intCmp])
theorem R.gt : Run P ρ w (.binOp .gtr t x y t') ty (.bool (decide (b < a))) := R.bin hx hy (guard_int ..) (by simp [binOp, Op.intCmp])
theorem R.ge : Run P ρ w (.binOp .geq t x y t') ty (.bool (decide (b ≤ a))) := R.bin hx hy (guard_int ..) (by simp [binOp, Op.intCmp])
end ints
section strs
variable {s r : Str} (hx : ev ρ x = vS s) (hy : ev ρ y = vS r)
include hx hy
theorem R.sadd (hl : s.length + r.length ≤ 9223372036854775807) : Run P ρ w (.binOp .add t x y t') ty (vS (s ++ r)) := R.bin hx hy (guard_str ..) (by
  have h0 : ((ByteArray.mk s.toArray).size + (ByteArray.mk r.toArray).size : Nat) = s.length + r.length := by simp [ByteArray.size]
  have h1 : ¬ (((ByteArray.mk s.toArray).size + (ByteArray.mk r.toArray).size : Nat) : Int) > IntKind.i64.max := by rw [h0, IntKind.max_i64]; omega
  have h2 : (ByteArray.mk s.toArray ++ ByteArray.mk r.toArray) = ByteArray.mk (s ++ r).toArray := by ext1; simp
  simp only [binOp, Op.stringOp, if_neg h1, Sem.run_pure, h2])
theorem R.seq : Run P ρ w (.binOp .eql t x y t') ty (.bool (s == r)) := R.bin hx hy (guard_str ..) (by simp [binOp, Op.stringOp])
theorem R.sne : Run P ρ w (.binOp .neq t x y t') ty (.bool (s != r)) := R.bin hx hy (guard_str ..) (by simp [binOp, Op.stringOp, bne])
theorem R.slt : Run P ρ w (.binOp .lss t x y t') ty (.bool (Op.bytesLess s r)) := R.bin hx hy (guard_str ..) (by simp [binOp, Op.stringOp])
theorem R.sle : Run P ρ w (.binOp .leq t x y t') ty (.bool (Op.bytesLess s r || s == r)) := R.bin hx hy (guard_str ..) (by simp [binOp, Op.stringOp])
theorem R.sgt : Run P ρ w (.binOp .gtr t x y t') ty (.bool (!(Op.bytesLess s r || s == r))) := R.bin hx hy (guard_str ..) (by simp [binOp, Op.stringOp])
theorem R.sge : Run P ρ w (.binOp .geq t x y t') ty (.bool (!Op.bytesLess s r)) := R.bin hx hy (guard_str ..) (by simp [binOp, Op.stringOp])
end strs
section bools
variable [hU : Und P t .bool] {p q : Bool} (hx : ev ρ x = .bool p) (hy : ev ρ y = .bool q)
include hx hy hU
theorem R.beq : Run P ρ w (.binOp .eql t x y t') ty (.bool (p == q)) := R.bin hx hy (guard_bool ..) (run_eql_bool w t p q hU.h)
theorem R.bne : Run P ρ w (.binOp .neq t x y t') ty (.bool (p != q)) := R.bin hx hy (guard_bool ..) (run_neq_bool w t p q hU.h)
end bools
theorem R.not {q : Bool} (hx : ev ρ x = .bool q) : Run P ρ w (.unOp .not t x) ty (.bool (!q)) := fun o h1 _ => by simp [execOp, h1, hx, Op.unary]
theorem R.neg (hx : ev ρ x = .int k a) : Run P ρ w (.unOp .neg t x) ty (.int k (k.wrap (0 - a))) := fun o h1 _ => by simp [execOp, h1, hx, Op.unary, Op.intArith]
theorem bsz (s : Str) : (ByteArray.mk s.toArray).size = s.length := by simp [ByteArray.size]
theorem run_len {u : Value} (hx : ev ρ x = u) (hr : (Builtin.len_ #[t] ty #[u]).run P w = .ok v w) : Run P ρ w (.call ⟨.builtin .len, #[x], #[t]⟩) ty v := fun o h1 h2 => by
  simp only [execOp, h1, h2, resolve, invoke, builtin, Sem.run_bind, Sem.run_pure, Result.andThen_ok, List.map_toArray, List.map_cons, List.map_nil, hx, hr]
theorem R.lenS [hU : Und P t .string] {s : Str} (hx : ev ρ x = vS s) : Run P ρ w (.call ⟨.builtin .len, #[x], #[t]⟩) ty (vI s.length) := run_len hx (by
  have key : ∀ z : ByteArray, (Builtin.len_ #[t] ty #[.string z]).run P w = .ok (goInt z.size) w := fun z => by simp [Builtin.len_, run_underlying hU.h]
  exact (key _).trans (by rw [bsz]; rfl))
theorem R.lenV {e : TypeId} [hU : Und P t (.slice e)] {ad : Option Addr} {l cp : Nat} (hx : ev ρ x = .slice ad l cp) : Run P ρ w (.call ⟨.builtin .len, #[x], #[t]⟩) ty (vI l) := run_len hx (by
  simp [Builtin.len_, run_underlying hU.h, goInt])
theorem R.ext {vs : List Value} {i : Nat} (hx : ev ρ x = .tuple vs.toArray) (hv : vs[i]? = some v) : Run P ρ w (.extract x i) ty v := fun o h1 _ => by
  simp [execOp, h1, hx, Instr.extract, hv]
theorem R.fa {s f off : Nat} [hF : Fld P s f off] {p : Addr} (hx : ev ρ x = .pointer (some p)) : Run P ρ w (.fieldAddr s x f) ty (.pointer (some (p.add off))) := fun o h1 _ => by
  obtain ⟨fs, fd, i, hu, hf, ho, hi, hs⟩ := hF.h
  subst ho
  simp [execOp, h1, hx, Instr.fieldAt, run_underlying hu, hf, Instr.sureAddr, fieldPlace, sizeOf, typeInfo, hi, hs]
theorem R.nc {p : Addr} (hx : ev ρ x = .pointer (some p)) : Run P ρ w (.nilCheck x) ty (.pointer (some p)) := fun o h1 _ => by simp [execOp, h1, hx]
theorem R.chr {s : Str} {i : Int} [hU : Und P t .string] {u : UInt8} (hx : ev ρ x = vS s) (hy : ev ρ y = .int k i) (h0 : 0 ≤ i) (hu : s[i.toNat]? = some u) : Run P ρ w (.index t x y) ty (.int .u8 u.toNat) := fun o h1 _ => by
  have hb : (ByteArray.mk s.toArray)[i.toNat]? = some u := by
    rw [List.getElem?_eq_some_iff] at hu
    obtain ⟨hl, e⟩ := hu
    have hs : i.toNat < (ByteArray.mk s.toArray).size := by rw [bsz]; exact hl
    rw [getElem?_pos (ByteArray.mk s.toArray) i.toNat hs]
    simp [← e, ByteArray.getElem_eq_getElem_data]
  simp [execOp, h1, hx, hy, Instr.index, asIntOf, run_underlying hU.h, h0, hb]
theorem R.subS {s : Str} [hU : Und P t .string] {lo hi : Option Operand} {l h : Nat} (hx : ev ρ x = vS s)
    (hl : (lo.map (ev ρ) = none ∧ l = 0) ∨ ∃ i : Int, lo.map (ev ρ) = some (vI i) ∧ 0 ≤ i ∧ l = i.toNat) (hh : (hi.map (ev ρ) = none ∧ h = s.length) ∨ ∃ i : Int, hi.map (ev ρ) = some (vI i) ∧ 0 ≤ i ∧ h = i.toNat)
    (hlh : l ≤ h) (hhs : h ≤ s.length) : Run P ρ w (.slice t x lo hi none) ty (vS ((s.take h).drop l)) := fun o h1 _ => by
  have hsz := bsz s
  have hex : (ByteArray.mk s.toArray).extract l h = ByteArray.mk ((s.take h).drop l).toArray := by
    ext1
    simp only [ByteArray.data_extract]
    apply Array.ext'
    simp [List.extract_eq_take_drop, List.drop_take]
  have hb : (Instr.sliceBounds false s.length s.length (lo.map (ev ρ)) (hi.map (ev ρ)) none).run P w = .ok (l, h, s.length) w := by
    rcases hl with ⟨e, rfl⟩ | ⟨i, e, h0, rfl⟩ <;> rcases hh with ⟨e', rfl⟩ | ⟨j, e', h0', rfl⟩ <;> rw [e, e']
    · simp [Instr.sliceBounds]
    · simp [Instr.sliceBounds, Instr.sliceBound, asIntOf, h0', (by omega : j ≤ (s.length : Int))]
    · simp [Instr.sliceBounds, Instr.sliceBound, asIntOf, h0, (by omega : i ≤ (s.length : Int))]
    · have e1 : (j.toNat : Int) = j := by omega
      simp [Instr.sliceBounds, Instr.sliceBound, asIntOf, h0, h0', (by omega : j ≤ (s.length : Int)), e1, (by omega : i ≤ j)]
  simp only [execOp, h1, hx, Option.map_none, Instr.sliceAt, Sem.run_bind, run_underlying hU.h, Result.andThen_ok, Instr.slice, Option.isSome_none, Bool.false_eq_true, if_false, hsz, hb, Sem.run_pure, hex]
theorem R.cvI {s d : TypeId} {k' : IntKind} {d0 : TypeDesc} [hs : Und P s d0] [hd : Und P d (.int k')] (hx : ev ρ x = .int k a) (hn : (match d0 with | .slice _ | .pointer _ | .unsafePointer => false | _ => true) = true) : Run P ρ w (.convert s d x) ty (.int k' (k'.wrap a)) := fun o h1 _ => by
  simp only [execOp, h1, hx, convert, Sem.run_bind, run_underlying hs.h, run_underlying hd.h, Result.andThen_ok]
  cases d0 <;> simp_all [Conv.intToInt]
end
end Go.Sx
