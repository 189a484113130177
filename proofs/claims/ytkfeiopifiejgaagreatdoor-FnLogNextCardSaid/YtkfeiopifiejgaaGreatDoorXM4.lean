/- Models of the functions: plain Lean, printed by a program of ours. Conditions: none. -/
import Derived.Test.YtkfeiopifiejgaaGreatDoorXLw
import Derived.Test.YtkfeiopifiejgaaGreatDoorXM0
namespace Go.Vm
open Go Go.Sx
set_option linter.unusedVariables false
set_option linter.unusedSimpArgs false

def impl_AncIs (x0 : Vm.Repo) (x1 : Int) (x2 : Int) : Option (Bool) :=
  jn (fun (y3 : Bool) =>
    some y3) fun K5 =>
  (Vm.impl_Repo_are x0 ([x1, x2] : List Int)).bind fun z14 =>
  bif z14 then
    ((Vm.impl_Repo_ancestors x0 x2).bind fun z23 =>
    (gi z23 x1).bind fun u29 =>
    K5 u29)
  else
    (K5 false)

end Go.Vm
