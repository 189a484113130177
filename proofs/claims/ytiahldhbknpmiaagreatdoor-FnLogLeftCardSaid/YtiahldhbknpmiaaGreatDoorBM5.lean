/- Models of the functions: plain Lean, printed by a program of ours. Conditions: none. -/
import Derived.Test.YtiahldhbknpmiaaGreatDoorBLw
import Derived.Test.YtiahldhbknpmiaaGreatDoorBM2
namespace Go.Vm
open Go Go.Sx
set_option linter.unusedVariables false
set_option linter.unusedSimpArgs false
def zkf (x0:Vm.Repo)(x1:Int):Option ((List Int)):=
 (Vm.zfi x0 ([x1]:List Int)).bind fun a=>
 bif(!a) then
 (some ([]:List Int))
 else
 ((Vm.zbE x0 x1).bind fun b=>
 (Vm.zc3 b).bind fun c=>
 some c)
end Go.Vm
