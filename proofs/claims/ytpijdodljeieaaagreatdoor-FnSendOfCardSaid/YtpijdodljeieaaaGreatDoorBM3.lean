/- Models of the functions: plain Lean, printed by a program of ours. Conditions: none. -/
import Derived.Test.YtpijdodljeieaaaGreatDoorBLw
import Derived.Test.YtpijdodljeieaaaGreatDoorBM0
namespace Go.Vm
open Go Go.Sx
set_option linter.unusedVariables false
set_option linter.unusedSimpArgs false
def zgS (x0:Vm.l30Rd)(x1:Vm.Repo):Option (Int×Int):=
 (Vm.zau x0 14).bind fun a=>
 bif(a.1==0) then
 ((Vm.zcj (Vm.l30Rd.mk x0.b a.2) ([(-1),(x1.Commits.length:Int)]:List Int)).bind fun c=>
 some (c.1,c.2))
 else
 ((Vm.zau (Vm.l30Rd.mk x0.b a.2) (x1.Commits.length:Int)).bind fun d=>
 some (d.1,d.2))
end Go.Vm
