/- Models of the functions: plain Lean, printed by a program of ours. Conditions: none. -/
import Derived.Test.YtpijdodljeieaaaGreatDoorALw
import Derived.Test.YtpijdodljeieaaaGreatDoorAM0
import Derived.Test.YtpijdodljeieaaaGreatDoorAM4
namespace Go.Vm
open Go Go.Sx
set_option linter.unusedVariables false
set_option linter.unusedSimpArgs false
def zd7 (x0:Vm.Repo)(b:Int->List Int->Option ((List Int))):Nat->Int->List Int->Option ((List Int))
 |0,_,_=>none
 |m+1,a,c=>
 bif decide (0<=(a:Int)) then
 ((apM c [a]).bind fun d=>
 (Vm.zdi x0 a).bind fun e=>
 zd7 x0 b m e d)
 else
 (b a c)
def zgN (x0:Vm.Repo)(x1:Int):Option ((List Int)):=
 jn (fun(c:Int) (a:List Int)=>
 some a) fun b=>
 zd7 x0 b ((x1+1-0).toNat+1) x1 ([]:List Int)
def zik (x0:Vm.Repo)(x1:Int):Option ((List Int)):=
 (Vm.zf4 x0 ([x1]:List Int)).bind fun a=>
 bif(!a) then
 (some ([]:List Int))
 else
 ((Vm.zgN x0 x1).bind fun b=>
 some b)
def zgE (x0:List Vm.File)(x1:Str):Option ((List Str)×Bool):=
 (Vm.zfe x0).bind fun b=>
 bif(!b) then
 (some (([]:List Str),false))
 else
 ((Vm.ziz x0 x1).bind fun a=>
 some (a.1,a.2))
def zeV (x0:List Str)(x1:Str)(b:Bool->Int->Option (Bool)):Nat->Bool->Int->Option (Bool)
 |0,_,_=>none
 |m+1,c,a=>
 bif decide (a< (x0.length:Int)) then
 ((gi x0 a).bind fun d=>
 bif(d==x1) then
 (some true)
 else
 (zeV x0 x1 b m c (w64 (a+1))))
 else
 (b c a)
def ziT (x0:List Str)(x1:Str):Option (Bool):=
 jn (fun(b:Bool) (c:Int)=>
 some false) fun a=>
 zeV x0 x1 a (((x0.length:Int)-0).toNat+1) false 0
end Go.Vm
