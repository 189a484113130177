/- Models of the functions: plain Lean, printed by a program of ours. Conditions: none. -/
import Derived.Test.YtpijdodljeieaaaGreatDoorBLw
import Derived.Test.YtpijdodljeieaaaGreatDoorBM0
import Derived.Test.YtpijdodljeieaaaGreatDoorBM1
namespace Go.Vm
open Go Go.Sx
set_option linter.unusedVariables false
set_option linter.unusedSimpArgs false
def zfS (x0:Vm.Repo)(x1:Int):Option ((List Int)):=
 (Vm.zdX x0 ([x1]:List Int)).bind fun a=>
 bif(!a) then
 (some ([]:List Int))
 else
 ((Vm.zbA x0 x1).bind fun b=>
 (Vm.zdf b).bind fun c=>
 some c)
end Go.Vm
