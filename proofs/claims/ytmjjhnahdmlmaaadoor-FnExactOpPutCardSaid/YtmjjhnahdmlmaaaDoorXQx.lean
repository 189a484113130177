/- Plain law FnExactOpPut. Conditions: the law's own premises. -/
import Derived.Test.YtmjjhnahdmlmaaaDoorXQw
import Derived.Test.YtmjjhnahdmlmaaaDoorXX
namespace Go.Vm
open Go Go.Sx
set_option linter.unusedSimpArgs false
set_option linter.unusedVariables false

theorem FnExactOpPut_eq {o : Op} (h : Bk.fit o) : laws_FnExactOpPut o = some true := by
  unfold laws_FnExactOpPut
  rw [eszOp h (by omega) (by omega), Option.bind_some]
  by_cases hb : (Bk.bulk o : Int) ≤ 1048576
  case neg => rw [if_neg hb]; rfl
  rw [if_pos hb, decide_eq_false (by omega), cond_false]
  have b1 : Bk.bulk o ≤ 1048576 := by omega
  have hf := OpFit.of h b1
  simp only [etoOp b1, Option.bind_some, sOpPut_eq hf, iOpPut_eq hf, bne_self_eq_false, cond_false, eeqOp h, beq_self_eq_true, Bool.not_true]
end Go.Vm
