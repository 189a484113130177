/- Models of the functions: plain Lean, printed by a program of ours. Conditions: none. -/
import Derived.Test.YtpijdodljeieaaaGreatDoorBLw
import Derived.Test.YtpijdodljeieaaaGreatDoorBM0
namespace Go.Vm
open Go Go.Sx
set_option linter.unusedVariables false
set_option linter.unusedSimpArgs false
def zdm (x0:Vm.l30Rd):Option (Vm.Repo×Int):=
 (Vm.zfb x0).bind fun a=>
 jn (fun(h:Int) (i:List Vm.Commit) (j:List Vm.Head)=>
 some (Vm.Repo.mk i j,h)) fun e=>
 bif decide (0< (a.1.Commits.length:Int)) then
 ((Vm.zau (Vm.l30Rd.mk x0.b a.2) (a.1.Commits.length:Int)).bind fun d=>
 (Vm.zau (Vm.l30Rd.mk x0.b d.2) 16).bind fun c=>
 bif(c.1==0) then
 ((gi a.1.Commits d.1).bind fun f=>
 (siM a.1.Commits d.1 (Vm.Commit.mk ([d.1]:List Int) f.Who f.Tree)).bind fun k=>
 e c.2 k a.1.Heads)
 else
 (bif(c.1==1) then
 ((gi a.1.Commits d.1).bind fun g=>
 (siM a.1.Commits d.1 (Vm.Commit.mk g.Parents ([]:Str) g.Tree)).bind fun l=>
 e c.2 l a.1.Heads)
 else
 (bif(c.1==2) then
 ((gi a.1.Heads 0).bind fun m=>
 (apM a.1.Heads [m]).bind fun n=>
 e c.2 a.1.Commits n)
 else
 (e c.2 a.1.Commits a.1.Heads))))
 else
 (e a.2 a.1.Commits a.1.Heads)
def zaU (d:List Bool->Option ((List Bool)))(a:Vm.Commit):Nat->Int->List Bool->Option ((List Bool))
 |0,_,_=>none
 |m+1,b,c=>
 bif decide (b< (a.Parents.length:Int)) then
 ((gi a.Parents b).bind fun e=>
 (gi c e).bind fun g=>
 (siM c e true).bind fun f=>
 zaU d a m (w64 (b+1)) f)
 else
 (d c)
def zaz (x0:Vm.Repo)(c:Int->List Bool->Option ((List Bool))):Nat->Int->List Bool->Option ((List Bool))
 |0,_,_=>none
 |m+1,a,b=>
 bif decide (0<=(a:Int)) then
 (jn (fun(f:List Bool)=>
 zaz x0 c m (w64 (a-1)) f) fun d=>
 (gi b a).bind fun g=>
 bif g then
 ((gi x0.Commits a).bind fun e=>
 zaU d e (((e.Parents.length:Int)-0).toNat+1) 0 b)
 else
 (d b))
 else
 (c a b)
def zbA (x0:Vm.Repo)(x1:Int):Option ((List Bool)):=
 (mkM (x0.Commits.length:Int) (false:Bool)).bind fun a=>
 (gi a x1).bind fun e=>
 (siM a x1 true).bind fun b=>
 jn (fun(f:Int) (c:List Bool)=>
 some c) fun d=>
 zaz x0 d ((x1+1-0).toNat+1) x1 b
def zc7 (x0:List Bool)(c:List Int->Int->Option ((List Int))):Nat->List Int->Int->Option ((List Int))
 |0,_,_=>none
 |m+1,b,a=>
 bif decide (a< (x0.length:Int)) then
 (jn (fun(e:List Int)=>
 zc7 x0 c m e (w64 (a+1))) fun d=>
 (gi x0 a).bind fun f=>
 bif f then
 ((apM b [a]).bind fun g=>
 d g)
 else
 (d b))
 else
 (c b a)
def zdf (x0:List Bool):Option ((List Int)):=
 jn (fun(a:List Int) (c:Int)=>
 some a) fun b=>
 zc7 x0 b (((x0.length:Int)-0).toNat+1) ([]:List Int) 0
def za4 (x0:Vm.Repo)(x1:Int):Option ((List Vm.File)):=
 bif decide (x1< (0:Int)) then
 (some ([]:List File))
 else
 ((gi x0.Commits x1).bind fun a=>
 some a.Tree)
end Go.Vm
