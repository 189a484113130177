/- Models of the functions: plain Lean, printed by a program of ours. Conditions: none. -/
import Derived.Test.YtpijdodljeieaaaGreatDoorALw
namespace Go.Vm
open Go Go.Sx
set_option linter.unusedVariables false
set_option linter.unusedSimpArgs false
def zhn (x0:List Int)(x1:Int)(b:Bool->Int->Option (Bool)):Nat->Bool->Int->Option (Bool)
 |0,_,_=>none
 |m+1,c,a=>
 bif decide (a< (x0.length:Int)) then
 ((gi x0 a).bind fun d=>
 bif((d:Int)==(x1:Int)) then
 (some true)
 else
 (zhn x0 x1 b m c (w64 (a+1))))
 else
 (b c a)
def zkj (x0:List Int)(x1:Int):Option (Bool):=
 jn (fun(b:Bool) (c:Int)=>
 some false) fun a=>
 zhn x0 x1 a (((x0.length:Int)-0).toNat+1) false 0
end Go.Vm
