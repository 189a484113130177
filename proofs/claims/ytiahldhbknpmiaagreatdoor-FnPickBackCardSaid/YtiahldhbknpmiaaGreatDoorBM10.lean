/- Models of the functions: plain Lean, printed by a program of ours. Conditions: none. -/
import Derived.Test.YtiahldhbknpmiaaGreatDoorBLw
import Derived.Test.YtiahldhbknpmiaaGreatDoorBM4
namespace Go.Vm
open Go Go.Sx
set_option linter.unusedVariables false
set_option linter.unusedSimpArgs false
def zgj (x0:Vm.Repo)(x1:Vm.Repo)(b:Bool->Int->Option (Bool)):Nat->Bool->Int->Option (Bool)
 |0,_,_=>none
 |m+1,c,a=>
 bif decide (a< (x1.Commits.length:Int)) then
 ((gi x0.Commits a).bind fun d=>
 (gi x1.Commits a).bind fun e=>
 (Vm.zhK d e).bind fun f=>
 bif(!f) then
 (some false)
 else
 (zgj x0 x1 b m c (w64 (a+1))))
 else
 (b c a)
def zhF (x0:Vm.Repo)(x1:Vm.Repo):Option (Bool):=
 bif decide (x0.Commits.length< (x1.Commits.length:Int)) then
 (some false)
 else
 (jn (fun(b:Bool) (c:Int)=>
 some true) fun a=>
 zgj x0 x1 a (((x1.Commits.length:Int)-0).toNat+1) false 0)
end Go.Vm
