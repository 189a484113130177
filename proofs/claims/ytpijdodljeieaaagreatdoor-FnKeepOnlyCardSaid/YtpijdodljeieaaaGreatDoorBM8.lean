/- Models of the functions: plain Lean, printed by a program of ours. Conditions: none. -/
import Derived.Test.YtpijdodljeieaaaGreatDoorBLw
import Derived.Test.YtpijdodljeieaaaGreatDoorBM5
namespace Go.Vm
open Go Go.Sx
set_option linter.unusedVariables false
set_option linter.unusedSimpArgs false
def zeV (x0:Vm.Repo)(x1:Vm.Repo)(b:Bool->Int->Option (Bool)):Nat->Bool->Int->Option (Bool)
 |0,_,_=>none
 |m+1,c,a=>
 bif decide (a< (x0.Heads.length:Int)) then
 ((gi x0.Heads a).bind fun d=>
 (gi x1.Heads a).bind fun e=>
 bif(!(d.Name==e.Name&&d.At==e.At)) then
 (some false)
 else
 (zeV x0 x1 b m c (w64 (a+1))))
 else
 (b c a)
def zeW (x0:Vm.Repo)(x1:Vm.Repo)(b:Bool->Int->Option (Bool)):Nat->Bool->Int->Option (Bool)
 |0,_,_=>none
 |m+1,c,a=>
 bif decide (a< (x0.Commits.length:Int)) then
 ((gi x0.Commits a).bind fun d=>
 (gi x1.Commits a).bind fun e=>
 (Vm.zfA d e).bind fun f=>
 bif(!f) then
 (some false)
 else
 (zeW x0 x1 b m c (w64 (a+1))))
 else
 (b c a)
def zgc (x0:Vm.Repo)(x1:Vm.Repo):Option (Bool):=
 jn (fun(b:Bool)=>
 bif b then
 (some false)
 else
 (jn (fun(c:Bool) (f:Int)=>
 jn (fun(g:Bool) (h:Int)=>
 some true) fun d=>
 zeV x0 x1 d (((x0.Heads.length:Int)-0).toNat+1) c 0) fun e=>
 zeW x0 x1 e (((x0.Commits.length:Int)-0).toNat+1) false 0)) fun a=>
 bif((x0.Commits.length:Int) !=(x1.Commits.length:Int)) then
 (a true)
 else
 (a ((x0.Heads.length:Int) !=(x1.Heads.length:Int)))
end Go.Vm
