/- Models of the functions: plain Lean, printed by a program of ours. Conditions: none. -/
import Derived.Test.YtiahldhbknpmiaaGreatDoorBLw
import Derived.Test.YtiahldhbknpmiaaGreatDoorBM0
import Derived.Test.YtiahldhbknpmiaaGreatDoorBM4
namespace Go.Vm
open Go Go.Sx
set_option linter.unusedVariables false
set_option linter.unusedSimpArgs false
def ziP (x0:Vm.Repo)(x1:Str)(x2:Str)(x3:Int):Option (Vm.Repo×Int):=
 (Vm.zdg x0).bind fun b=>
 bif(!b) then
 (some (Vm.Repo.mk ([]:List Commit) ([]:List Head),1))
 else
 ((Vm.zgt x0 x1 x2 x3 true).bind fun a=>
 some (Vm.Repo.mk a.1.Commits a.1.Heads,a.2))
end Go.Vm
