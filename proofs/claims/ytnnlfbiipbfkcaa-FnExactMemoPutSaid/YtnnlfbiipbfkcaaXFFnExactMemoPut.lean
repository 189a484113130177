/-
  The law 'FnExactMemoPut' answers true whatever its arguments, and leaves all memory that was there as it was.
  Conditions: none beyond the given statement's own.
-/
import Derived.Test.YtnnlfbiipbfkcaaRows
import Derived.Test.YtnnlfbiipbfkcaaXW2
import Derived.Test.YtnnlfbiipbfkcaaXQc
import Derived.Test.YtnnlfbiipbfkcaaXOs
import Derived.WalkKit
import Derived.ProofKit
import Derived.OpenShut
import Derived.ShutString
import Derived.ChangeOld
import Derived.Below
namespace Go.Proofs.Ytnnlfbiipbfkcaa.fnExactMemoPut
open Go.ChangeShapes Go.WideShapes Go.ChangeAt Go.RowKit Go.Sx Go.Vm
set_option linter.unusedVariables false

theorem own : ownKnob Try.prog.godebug = none := by kernel_rfl
theorem laidOut : laidOutB Try.prog = true := by kernel_rfl

theorem walk (W : World) {x0 : List Memo} {v0 : Value} (rd0 : Rd ⟨W, fun _ => 0⟩ [0] [v0] x0) (ft0 : Bk.fit x0) {x1 : Vm.Memo} {c1_0 : Value} {c1_1 : Value} {c1_2 : Value} {c1_3 : Value} (rd1 : Rd ⟨W, fun _ => 0⟩ [0] [c1_0, c1_1, c1_2, c1_3] x1) (ft1 : Bk.fit x1) : Calls Try.prog 5 [v0, .agg [c1_0, c1_1, c1_2, c1_3].toArray].toArray W fun e w' => e = .returned (.bool true) ∧ Below W.heap.size W w' :=
  CallR.fin (W := ⟨W, fun _ => 0⟩) (p5 (W := ⟨W, fun _ => 0⟩) (K := [0]) rd0 rd1 (FnExactMemoPut_eq ft0 ft1))

set_option maxRecDepth 100000 in
theorem lifted (os : Os) (started : os.Started) (H : Type) (enc : TypeId × Value → H) :
    ReturnsInHanded {} Try.checked os 5 .any (Rows.fnExactMemoPutSpec.pre6 enc Try.prog Try.f5 Rows.fnExactMemoPutRow.domain false) (Rows.fnExactMemoPutSpec.post enc Try.prog Try.f5 false true false false) := by
  refine returnsInHanded_of_change (C := Try.checked) own started (by kernel_rfl) Try.func5
    (ChangeSpec.witness6 (enc := enc) (C := Try.checked) false ⟨#[], #[.slice none 0 0, .agg #[.slice none 0 0, .slice none 0 0, .slice none 0 0, .slice none 0 0]], []⟩ 8 (by kernel_rfl) (by kernel_rfl) (by kernel_rfl) (by kernel_rfl)) ?_
  intro W base args ds gs before hval0 hW hcnd _
  have hval : ∀ (j : Nat) t v, Try.f5.params[j]? = some t → args[j]? = some v → Value.okWide Try.prog W .any base t v := hval0
  have hW' := hW
  obtain ⟨p, q, hA0, hV, rfl, hfz, hnd⟩ := hW
  have hA : DataW.TrodAll enc Try.prog W 0 (fun _ => true) true Try.f5.params.toList args.toList ds p := hA0
  rw [Try.params5] at hA hval
  obtain ⟨v0, vs0, d0, ds0, p0, q0, hargs, rfl, rfl, h0, r0⟩ := trodAll_cons hA
  obtain ⟨v1, vs1, d1, ds1, p1, q1, rfl, rfl, rfl, h1, r1⟩ := trodAll_cons r0
  obtain ⟨rfl, rfl, rfl⟩ := trodAll_nil r1
  obtain rfl : args = #[v0, v1] := by cases args; simp_all
  obtain ⟨rfl, rfl⟩ := trodVars_none hV
  have k0 := h0
  have lt0 : ∀ x ∈ p0, x.block < W.heap.size := by obtain ⟨m, hm⟩ := k0; exact DataW.trod_lt m _ _ _ hm
  have k1 := h1
  have lt1 : ∀ x ∈ p1, x.block < W.heap.size := by obtain ⟨m, hm⟩ := k1; exact DataW.trod_lt m _ _ _ hm
  obtain ⟨a0, len0, cap0, rfl⟩ := okWide_slice Try.underlying22 (hval 0 22 v0 rfl rfl)
  obtain ⟨x0, rd0, ft0⟩ := Opn.rd (t := 22) (α := List Memo) h0
  obtain ⟨cs1, rfl, _⟩ := okWide_struct Try.underlying38 (hval 1 38 v1 rfl rfl)
  obtain ⟨x1, rd1, ft1⟩ := Opn.rd (t := 38) (α := Memo) h1
  obtain ⟨c1_0, c1_1, c1_2, c1_3, e1, _, _, _, _⟩ := Memo.split rd1
  obtain rfl : cs1 = [c1_0, c1_1, c1_2, c1_3].toArray := by rw [← e1]; simp [Value.cells]
  clear hA0 hval0
  refine (walk W rd0 ft0 rd1 ft1).mono fun e W' ⟨he, bel⟩ => ?_
  subst he
  exact ⟨_, rfl, _, _, _, [], _, [], hW', trodAll_mk1 (shut_bool Try.underlying4 _), (trodAll_cons_mk (Below.trod laidOut (by kernel_rfl) (of_decide_eq_true (by kernel_rfl)) k0 bel lt0) (trodAll_cons_mk (Below.trod laidOut (by kernel_rfl) (of_decide_eq_true (by kernel_rfl)) k1 bel lt1) trodAll_mk0)), rfl, bel.frame _, fun h => by cases h⟩

theorem over : Rows.fnExactMemoPutRow.holds Try.pinned (OpenSpec.ofChange Rows.fnExactMemoPutSpec) :=
  OpenClaim.holds_of_wide 5 Try.f5 rfl rfl rfl rfl rfl rfl rfl ⟨rfl, rfl, rfl, rfl, rfl⟩ rfl rfl rfl rfl rfl (by kernel_rfl) Try.func5 (by kernel_rfl)
    (of_decide_eq_true (by kernel_rfl)) (by unfold Func.isWrapper; first | (rw [if_pos (by decide +kernel)]; kernel_rfl) | (rw [if_neg (by decide +kernel)]; exact ⟨rfl, rfl⟩))
    (fun os started H enc _ => lifted os started H enc)

/-- The statement. -/
theorem proved : Rows.FnExactMemoPutSaid := over
#print axioms proved
end Go.Proofs.Ytnnlfbiipbfkcaa.fnExactMemoPut
