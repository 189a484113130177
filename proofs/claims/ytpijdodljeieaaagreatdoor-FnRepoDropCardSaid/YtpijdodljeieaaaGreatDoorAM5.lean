/- Models of the functions: plain Lean, printed by a program of ours. Conditions: none. -/
import Derived.Test.YtpijdodljeieaaaGreatDoorALw
import Derived.Test.YtpijdodljeieaaaGreatDoorAM0
import Derived.Test.YtpijdodljeieaaaGreatDoorAM3
namespace Go.Vm
open Go Go.Sx
set_option linter.unusedVariables false
set_option linter.unusedSimpArgs false
def zfG (x0:Vm.Head)(x1:Str):Option (Bool):=
 some (x0.Name==x1)
def zan (x0:List Vm.Head)(x2:Str)(b:Int->Int->Option (Int)):Nat->Int->Int->Option (Int)
 |0,_,_=>none
 |m+1,c,a=>
 bif decide (a< (x0.length:Int)) then
 ((gi x0 a).bind fun d=>
 (Vm.zfG d x2).bind fun e=>
 bif e then
 (some a)
 else
 (zan x0 x2 b m c (w64 (a+1))))
 else
 (b c a)
def zaw (x0:List Vm.Head)(x2:Str):Option (Int):=
 jn (fun(b:Int) (c:Int)=>
 some (-1)) fun a=>
 zan x0 x2 a (((x0.length:Int)-0).toNat+1) 0 0
def zal (x2:Str)(d:Int->Int->List Vm.Head->Option ((List Vm.Head))):Nat->Int->Int->List Vm.Head->Option ((List Vm.Head))
 |0,_,_,_=>none
 |m+1,b,c,a=>
 bif decide (c< (a.length:Int)) then
 (jn (fun(g:Int) (h:List Vm.Head)=>
 zal x2 d m g (w64 (c+1)) h) fun e=>
 (gi a c).bind fun f=>
 (Vm.zfG f x2).bind fun i=>
 bif(!i) then
 ((gi a b).bind fun k=>
 (siM a b f).bind fun j=>
 e (w64 (b+1)) j)
 else
 (e b a))
 else
 (d b c a)
def zav (x0:List Vm.Head)(x2:Str):Option ((List Vm.Head)):=
 (Vm.zaw x0 x2).bind fun a=>
 bif((a:Int)==((-1):Int)) then
 (some x0)
 else
 (jn (fun(b:Int) (f:Int) (c:List Vm.Head)=>
 (slM c b (c.length:Int)).bind fun g=>
 (slM (clM c (b:Int).toNat (Vm.Head.mk ([]:Str) 0:Vm.Head)) 0 b).bind fun d=>
 some d) fun e=>
 zal x2 e (((x0.length:Int)-(w64 (a+1))).toNat+1) a (w64 (a+1)) x0)
def zhy (x0:Vm.Repo)(x1:Str):Option (Vm.Repo×Bool):=
 (Vm.zct x0).bind fun c=>
 bif(!c) then
 (some (Vm.Repo.mk ([]:List Commit) ([]:List Head),false))
 else
 ((Vm.zdZ x0).bind fun a=>
 (Vm.zav a.Heads x1).bind fun b=>
 some (Vm.Repo.mk a.Commits b,decide (b.length< (x0.Heads.length:Int))))
end Go.Vm
