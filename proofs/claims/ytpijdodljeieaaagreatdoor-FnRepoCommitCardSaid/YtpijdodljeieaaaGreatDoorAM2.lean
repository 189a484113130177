/- Models of the functions: plain Lean, printed by a program of ours. Conditions: none. -/
import Derived.Test.YtpijdodljeieaaaGreatDoorALw
namespace Go.Vm
open Go Go.Sx
set_option linter.unusedVariables false
set_option linter.unusedSimpArgs false
def zbK (x0:Vm.Repo)(x1:Int):Option ((List Vm.File)):=
 bif decide (x1< (0:Int)) then
 (some ([]:List File))
 else
 ((gi x0.Commits x1).bind fun a=>
 some a.Tree)
end Go.Vm
