/- Models of the functions: plain Lean, printed by a program of ours. Conditions: none. -/
import Derived.Test.YtkfeiopifiejgaaGreatDoorXLw
import Derived.Test.YtkfeiopifiejgaaGreatDoorXM0
import Derived.Test.YtkfeiopifiejgaaGreatDoorXM3
namespace Go.Vm
open Go Go.Sx
set_option linter.unusedVariables false
set_option linter.unusedSimpArgs false

def impl_AncAll (x0 : Vm.Repo) (x1 : Int) : Option ((List Int)) :=
  (Vm.impl_Repo_are x0 ([x1] : List Int)).bind fun z9 =>
  bif (!z9) then
    (some ([] : List Int))
  else
    ((Vm.impl_Repo_ancestors x0 x1).bind fun z18 =>
    (Vm.impl_listOf z18).bind fun z24 =>
    some z24)

end Go.Vm
