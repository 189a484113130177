/- Models of the functions: plain Lean, printed by a program of ours. Conditions: none. -/
import Derived.Test.YtpijdodljeieaaaGreatDoorBLw
import Derived.Test.YtpijdodljeieaaaGreatDoorBM0
namespace Go.Vm
open Go Go.Sx
set_option linter.unusedVariables false
set_option linter.unusedSimpArgs false
def zc0 (x0:List Int)(x1:Int)(b:Int->Int->Option (Int)):Nat->Int->Int->Option (Int)
 |0,_,_=>none
 |m+1,c,a=>
 bif decide (a< (x0.length:Int)) then
 ((gi x0 a).bind fun d=>
 bif((d:Int)==(x1:Int)) then
 (some a)
 else
 (zc0 x0 x1 b m c (w64 (a+1))))
 else
 (b c a)
def zfc (x0:List Int)(x1:Int):Option (Int):=
 jn (fun(b:Int) (c:Int)=>
 some (-1)) fun a=>
 zc0 x0 x1 a (((x0.length:Int)-0).toNat+1) 0 0
def zfA (x0:Vm.Commit)(x1:Vm.Commit):Option (Bool):=
 jn (fun(b:Bool)=>
 some b) fun a=>
 bif(x0.Who==x1.Who) then
 ((Vm.ze3 x0.Parents x1.Parents).bind fun c=>
 bif c then
 ((Vm.zem x0.Tree x1.Tree).bind fun d=>
 a d)
 else
 (a false))
 else
 (a false)
end Go.Vm
