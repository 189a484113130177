/- Models of the functions: plain Lean, printed by a program of ours. Conditions: none. -/
import Derived.Test.YtpijdodljeieaaaGreatDoorBLw
import Derived.Test.YtpijdodljeieaaaGreatDoorBM0
namespace Go.Vm
open Go Go.Sx
set_option linter.unusedVariables false
set_option linter.unusedSimpArgs false
def zdo (x0:Vm.Repo)(x1:Str)(b:Int->Int->Option (Int)):Nat->Int->Int->Option (Int)
 |0,_,_=>none
 |m+1,c,a=>
 bif decide (a< (x0.Heads.length:Int)) then
 ((gi x0.Heads a).bind fun d=>
 bif(d.Name==x1) then
 (some d.At)
 else
 (zdo x0 x1 b m c (w64 (a+1))))
 else
 (b c a)
def zhl (x0:Vm.Repo)(x1:Str):Option (Int):=
 jn (fun(b:Int) (c:Int)=>
 some (-1)) fun a=>
 zdo x0 x1 a (((x0.Heads.length:Int)-0).toNat+1) 0 0
def zgb (x0:Vm.Repo)(x1:Str):Option (Int):=
 (Vm.zde x0).bind fun a=>
 bif(!a) then
 (some (-1))
 else
 ((Vm.zhl x0 x1).bind fun b=>
 some b)
end Go.Vm
