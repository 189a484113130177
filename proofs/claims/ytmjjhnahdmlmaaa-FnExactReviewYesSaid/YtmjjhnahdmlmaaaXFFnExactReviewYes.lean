/-
  The law 'FnExactReviewYes' answers true whatever its arguments, and leaves all memory that was there as it was.
  Conditions: none beyond the given statement's own.
-/
import Derived.Test.YtmjjhnahdmlmaaaRows
import Derived.Test.YtmjjhnahdmlmaaaXW2
import Derived.Test.YtmjjhnahdmlmaaaXQr
import Derived.Test.YtmjjhnahdmlmaaaXOs
import Derived.WalkKit
import Derived.ProofKit
import Derived.OpenShut
import Derived.ShutString
import Derived.ChangeOld
import Derived.Below
namespace Go.Proofs.Ytmjjhnahdmlmaaa.fnExactReviewYes
open Go.ChangeShapes Go.WideShapes Go.ChangeAt Go.RowKit Go.Sx Go.Vm
set_option linter.unusedVariables false

theorem own : ownKnob Try.prog.godebug = none := by kernel_rfl
theorem laidOut : laidOutB Try.prog = true := by kernel_rfl

theorem walk (W : World) {x0 : Vm.Review} {c0_3 : Value} (rd0 : Rd ⟨W, fun _ => 0⟩ [0] [vS x0.Branch, vS x0.Into, vS x0.By, c0_3] x0) (ft0 : Bk.fit x0) {x1 : Str} (ft1 : Bk.fit x1) : Calls Try.prog 3 [.agg [vS x0.Branch, vS x0.Into, vS x0.By, c0_3].toArray, vS x1].toArray W fun e w' => e = .returned (.bool true) ∧ Below W.heap.size W w' :=
  CallR.fin (W := ⟨W, fun _ => 0⟩) (p3 (W := ⟨W, fun _ => 0⟩) (K := [0]) rd0 (FnExactReviewYes_eq ft0 ft1))

set_option maxRecDepth 100000 in
theorem lifted (os : Os) (started : os.Started) (H : Type) (enc : TypeId × Value → H) :
    ReturnsInHanded {} Try.checked os 3 .any (Rows.fnExactReviewYesSpec.pre6 enc Try.prog Try.f3 Rows.fnExactReviewYesRow.domain false) (Rows.fnExactReviewYesSpec.post enc Try.prog Try.f3 false true false false) := by
  refine returnsInHanded_of_change (C := Try.checked) own started (by kernel_rfl) Try.func3
    (ChangeSpec.witness6 (enc := enc) (C := Try.checked) false ⟨#[], #[.agg #[.string ByteArray.empty, .string ByteArray.empty, .string ByteArray.empty, .slice none 0 0], .string ByteArray.empty], []⟩ 8 (by kernel_rfl) (by kernel_rfl) (by kernel_rfl) (by kernel_rfl)) ?_
  intro W base args ds gs before hval0 hW hcnd _
  have hval : ∀ (j : Nat) t v, Try.f3.params[j]? = some t → args[j]? = some v → Value.okWide Try.prog W .any base t v := hval0
  have hW' := hW
  obtain ⟨p, q, hA0, hV, rfl, hfz, hnd⟩ := hW
  have hA : DataW.TrodAll enc Try.prog W 0 (fun _ => true) true Try.f3.params.toList args.toList ds p := hA0
  rw [Try.params3] at hA hval
  obtain ⟨v0, vs0, d0, ds0, p0, q0, hargs, rfl, rfl, h0, r0⟩ := trodAll_cons hA
  obtain ⟨v1, vs1, d1, ds1, p1, q1, rfl, rfl, rfl, h1, r1⟩ := trodAll_cons r0
  obtain ⟨rfl, rfl, rfl⟩ := trodAll_nil r1
  obtain rfl : args = #[v0, v1] := by cases args; simp_all
  obtain ⟨rfl, rfl⟩ := trodVars_none hV
  have k0 := h0
  have lt0 : ∀ x ∈ p0, x.block < W.heap.size := by obtain ⟨m, hm⟩ := k0; exact DataW.trod_lt m _ _ _ hm
  have k1 := h1
  have lt1 : ∀ x ∈ p1, x.block < W.heap.size := by obtain ⟨m, hm⟩ := k1; exact DataW.trod_lt m _ _ _ hm
  obtain ⟨cs0, rfl, _⟩ := okWide_struct Try.underlying24 (hval 0 24 v0 rfl rfl)
  obtain ⟨x0, rd0, ft0⟩ := Opn.rd (t := 24) (α := Review) h0
  obtain ⟨c0_3, e0, _⟩ := Review.split rd0
  obtain rfl : cs0 = [vS x0.Branch, vS x0.Into, vS x0.By, c0_3].toArray := by rw [← e0]; simp [Value.cells]
  obtain ⟨s1, rfl⟩ := okWide_string Try.underlying9 (hval 1 9 v1 rfl rfl)
  obtain ⟨x1, rd1, ft1⟩ := Opn.rd (t := 9) (α := Str) h1
  obtain rfl : s1 = ⟨x1.toArray⟩ := by simpa [Value.cells] using Rd.str rd1
  clear hA0 hval0
  refine (walk W rd0 ft0 ft1).mono fun e W' ⟨he, bel⟩ => ?_
  subst he
  exact ⟨_, rfl, _, _, _, [], _, [], hW', trodAll_mk1 (shut_bool Try.underlying4 _), (trodAll_cons_mk (Below.trod laidOut (by kernel_rfl) (of_decide_eq_true (by kernel_rfl)) k0 bel lt0) (trodAll_cons_mk (Below.trod laidOut (by kernel_rfl) (of_decide_eq_true (by kernel_rfl)) k1 bel lt1) trodAll_mk0)), rfl, bel.frame _, fun h => by cases h⟩

theorem over : Rows.fnExactReviewYesRow.holds Try.pinned (OpenSpec.ofChange Rows.fnExactReviewYesSpec) :=
  OpenClaim.holds_of_wide 3 Try.f3 rfl rfl rfl rfl rfl rfl rfl ⟨rfl, rfl, rfl, rfl, rfl⟩ rfl rfl rfl rfl rfl (by kernel_rfl) Try.func3 (by kernel_rfl)
    (of_decide_eq_true (by kernel_rfl)) (by unfold Func.isWrapper; first | (rw [if_pos (by decide +kernel)]; kernel_rfl) | (rw [if_neg (by decide +kernel)]; exact ⟨rfl, rfl⟩))
    (fun os started H enc _ => lifted os started H enc)

/-- The statement. -/
theorem proved : Rows.FnExactReviewYesSaid := over
#print axioms proved
end Go.Proofs.Ytmjjhnahdmlmaaa.fnExactReviewYes
