/- Models of the functions: plain Lean, printed by a program of ours. Conditions: none. -/
import Derived.Test.YtkfeiopifiejgaaGreatDoorXLw
import Derived.Test.YtkfeiopifiejgaaGreatDoorXM0
import Derived.Test.YtkfeiopifiejgaaGreatDoorXM2
namespace Go.Vm
open Go Go.Sx
set_option linter.unusedVariables false
set_option linter.unusedSimpArgs false

def spec_DrawAncIs (x0 : List Byte) : Option (Vm.Repo × Int × Int) :=
  (Vm.spec_l30Open x0).bind fun z4 =>
  (Vm.spec_l30AnyRepo z4).bind fun z10 =>
  (Vm.spec_l30At (Vm.l30Rd.mk z4.b z10.2) (Vm.Repo.mk z10.1.Commits z10.1.Heads)).bind fun z28 =>
  (Vm.spec_l30At (Vm.l30Rd.mk z4.b z28.2) (Vm.Repo.mk z10.1.Commits z10.1.Heads)).bind fun z44 =>
  some (Vm.Repo.mk z10.1.Commits z10.1.Heads, z28.1, z44.1)

end Go.Vm
