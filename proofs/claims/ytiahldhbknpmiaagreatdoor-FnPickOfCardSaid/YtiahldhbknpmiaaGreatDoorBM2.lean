/- Models of the functions: plain Lean, printed by a program of ours. Conditions: none. -/
import Derived.Test.YtiahldhbknpmiaaGreatDoorBLw
import Derived.Test.YtiahldhbknpmiaaGreatDoorBM0
namespace Go.Vm
open Go Go.Sx
set_option linter.unusedVariables false
set_option linter.unusedSimpArgs false
def zdr (x0:Vm.Repo)(x1:List Int)(b:Bool->Int->Option (Bool)):Nat->Bool->Int->Option (Bool)
 |0,_,_=>none
 |m+1,c,a=>
 bif decide (a< (x1.length:Int)) then
 ((gi x1 a).bind fun d=>
 (Vm.za8 x0 d).bind fun e=>
 bif(!e) then
 (some false)
 else
 (zdr x0 x1 b m c (w64 (a+1))))
 else
 (b c a)
def zfi (x0:Vm.Repo)(x1:List Int):Option (Bool):=
 (Vm.zdg x0).bind fun a=>
 bif(!a) then
 (some false)
 else
 (jn (fun(c:Bool) (d:Int)=>
 some true) fun b=>
 zdr x0 x1 b (((x1.length:Int)-0).toNat+1) false 0)
def zbn (d:List Bool->Option ((List Bool)))(a:Vm.Commit):Nat->Int->List Bool->Option ((List Bool))
 |0,_,_=>none
 |m+1,b,c=>
 bif decide (b< (a.Parents.length:Int)) then
 ((gi a.Parents b).bind fun e=>
 (gi c e).bind fun g=>
 (siM c e true).bind fun f=>
 zbn d a m (w64 (b+1)) f)
 else
 (d c)
def za1 (x0:Vm.Repo)(c:Int->List Bool->Option ((List Bool))):Nat->Int->List Bool->Option ((List Bool))
 |0,_,_=>none
 |m+1,a,b=>
 bif decide (0<=(a:Int)) then
 (jn (fun(f:List Bool)=>
 za1 x0 c m (w64 (a-1)) f) fun d=>
 (gi b a).bind fun g=>
 bif g then
 ((gi x0.Commits a).bind fun e=>
 zbn d e (((e.Parents.length:Int)-0).toNat+1) 0 b)
 else
 (d b))
 else
 (c a b)
def zbE (x0:Vm.Repo)(x1:Int):Option ((List Bool)):=
 (mkM (x0.Commits.length:Int) (false:Bool)).bind fun a=>
 (gi a x1).bind fun e=>
 (siM a x1 true).bind fun b=>
 jn (fun(f:Int) (c:List Bool)=>
 some c) fun d=>
 za1 x0 d ((x1+1-0).toNat+1) x1 b
def zej (x0:List Bool)(c:List Int->Int->Option ((List Int))):Nat->List Int->Int->Option ((List Int))
 |0,_,_=>none
 |m+1,b,a=>
 bif decide (a< (x0.length:Int)) then
 (jn (fun(e:List Int)=>
 zej x0 c m e (w64 (a+1))) fun d=>
 (gi x0 a).bind fun f=>
 bif f then
 ((apM b [a]).bind fun g=>
 d g)
 else
 (d b))
 else
 (c b a)
def zc3 (x0:List Bool):Option ((List Int)):=
 jn (fun(a:List Int) (c:Int)=>
 some a) fun b=>
 zej x0 b (((x0.length:Int)-0).toNat+1) ([]:List Int) 0
end Go.Vm
