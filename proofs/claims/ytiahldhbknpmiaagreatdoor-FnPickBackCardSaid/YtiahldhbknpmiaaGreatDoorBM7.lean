/- Models of the functions: plain Lean, printed by a program of ours. Conditions: none. -/
import Derived.Test.YtiahldhbknpmiaaGreatDoorBLw
import Derived.Test.YtiahldhbknpmiaaGreatDoorBM2
namespace Go.Vm
open Go Go.Sx
set_option linter.unusedVariables false
set_option linter.unusedSimpArgs false
def zkn (x0:Vm.Repo)(x1:Int)(x2:Int):Option (Bool):=
 jn (fun(b:Bool)=>
 some b) fun a=>
 (Vm.zfi x0 ([x1,x2]:List Int)).bind fun c=>
 bif c then
 ((Vm.zbE x0 x2).bind fun d=>
 (gi d x1).bind fun e=>
 a e)
 else
 (a false)
end Go.Vm
