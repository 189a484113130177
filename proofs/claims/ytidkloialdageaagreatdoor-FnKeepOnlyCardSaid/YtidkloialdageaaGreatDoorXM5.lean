/- Models of the functions: plain Lean, printed by a program of ours. Conditions: none. -/
import Derived.Test.YtidkloialdageaaGreatDoorXLw
import Derived.Test.YtidkloialdageaaGreatDoorXM0
namespace Go.Vm
open Go Go.Sx
set_option linter.unusedVariables false
set_option linter.unusedSimpArgs false

def spec_l30At (x0 : Vm.l30Rd) (x1 : Vm.Repo) : Option (Int × Int) :=
  (Vm.spec_l30Rd_pick x0 14).bind fun z5 =>
  bif ((z5.1 : Int) == (0 : Int)) then
    ((Vm.spec_l30Rd_one (Vm.l30Rd.mk x0.b z5.2) ([(-1), (x1.Commits.length : Int)] : List Int)).bind fun z17 =>
    some (z17.1, z17.2))
  else
    ((Vm.spec_l30Rd_pick (Vm.l30Rd.mk x0.b z5.2) (x1.Commits.length : Int)).bind fun z25 =>
    some (z25.1, z25.2))

end Go.Vm
