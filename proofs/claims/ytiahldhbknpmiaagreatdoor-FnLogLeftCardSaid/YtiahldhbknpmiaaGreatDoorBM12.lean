/- Models of the functions: plain Lean, printed by a program of ours. Conditions: none. -/
import Derived.Test.YtiahldhbknpmiaaGreatDoorBLw
import Derived.Test.YtiahldhbknpmiaaGreatDoorBM0
import Derived.Test.YtiahldhbknpmiaaGreatDoorBM1
import Derived.Test.YtiahldhbknpmiaaGreatDoorBM5
import Derived.Test.YtiahldhbknpmiaaGreatDoorBM6
import Derived.Test.YtiahldhbknpmiaaGreatDoorBM7
namespace Go.Vm
open Go Go.Sx
set_option linter.unusedVariables false
set_option linter.unusedSimpArgs false
def ze3 (a:Vm.Repo×(List Int)×Int)(c:Int)(d:Bool->Int->Option (Bool)):Nat->Bool->Int->Option (Bool)
 |0,_,_=>none
 |m+1,e,b=>
 bif decide (b< (a.2.1.length:Int)) then
 (bif e then
 ((gi a.2.1 b).bind fun f=>
 (Vm.zkn (Vm.Repo.mk a.1.Commits a.1.Heads) c f).bind fun g=>
 ze3 a c d m (!g) (w64 (b+1)))
 else
 (ze3 a c d m false (w64 (b+1))))
 else
 (d e b)
def zgU (a:Vm.Repo×(List Int)×Int)(c:(List Int))(d:Bool->Int->Option (Bool)):Nat->Bool->Int->Option (Bool)
 |0,_,_=>none
 |m+1,e,b=>
 bif decide (b< (a.1.Commits.length:Int)) then
 ((Vm.zkn (Vm.Repo.mk a.1.Commits a.1.Heads) b a.2.2).bind fun f=>
 jn (fun(g:Bool) (j:Int)=>
 (Vm.zlt c b).bind fun h=>
 bif(g !=h) then
 (some false)
 else
 (zgU a c d m e (w64 (b+1)))) fun i=>
 ze3 a b i (((a.2.1.length:Int)-0).toNat+1) f 0)
 else
 (d e b)
def zfH (a:Vm.Repo×(List Int)×Int)(c:Bool->Int->Option (Bool)):Nat->Bool->Int->Option (Bool)
 |0,_,_=>none
 |m+1,d,b=>
 bif decide (b< (a.2.1.length:Int)) then
 (jn (fun(f:Bool)=>
 bif f then
 (some true)
 else
 (zfH a c m d (w64 (b+1)))) fun e=>
 (gi a.2.1 b).bind fun g=>
 bif decide (g< (0:Int)) then
 (e true)
 else
 ((gi a.2.1 b).bind fun h=>
 e (decide (a.1.Commits.length<=(h:Int)))))
 else
 (c d b)
def zkG (x0:List Byte)(x1:List Byte):Option (Bool):=
 jn (fun(f:Bool)=>
 bif f then
 (some true)
 else
 ((Vm.zgQ x0).bind fun a=>
 (Vm.zgW (Vm.Repo.mk a.1.Commits a.1.Heads) a.2.1 a.2.2).bind fun c=>
 jn (fun(g:Bool)=>
 bif g then
 ((Vm.ziW (Vm.Repo.mk a.1.Commits a.1.Heads) a.2.1 a.2.2).bind fun h=>
 (Vm.zfg c h).bind fun i=>
 some i)
 else
 (jn (fun(j:Bool) (x:Int)=>
 jn (fun(y:Bool) (z:Int)=>
 (apM ([]:List Int) a.2.1).bind fun k=>
 (if(a.1.Commits.length:Int)=0 then none else some ()).bind fun _=>
 (apM k [Int.tmod (x1.length:Int) (a.1.Commits.length:Int)]).bind fun l=>
 (Vm.zgW (Vm.Repo.mk a.1.Commits a.1.Heads) l a.2.2).bind fun m=>
 jn (fun(n:Bool)=>
 some n) fun d=>
 bif decide (m.length<=(c.length:Int)) then
 ((Vm.zgW (Vm.Repo.mk a.1.Commits a.1.Heads) ([]:List Int) a.2.2).bind fun o=>
 (Vm.zkf (Vm.Repo.mk a.1.Commits a.1.Heads) a.2.2).bind fun p=>
 (Vm.zfg o p).bind fun q=>
 d q)
 else
 (d false)) fun r=>
 zgU a c r (((a.1.Commits.length:Int)-0).toNat+1) j 0) fun s=>
 zfH a s (((a.2.1.length:Int)-0).toNat+1) false 0)) fun b=>
 (Vm.ziW (Vm.Repo.mk a.1.Commits a.1.Heads) a.2.1 a.2.2).bind fun t=>
 (Vm.zfg c t).bind fun u=>
 bif(!u) then
 (b true)
 else
 ((Vm.zdg (Vm.Repo.mk a.1.Commits a.1.Heads)).bind fun v=>
 bif(!v) then
 (b true)
 else
 (bif decide (a.2.2< (0:Int)) then
 (b true)
 else
 (bif decide (a.1.Commits.length<=(a.2.2:Int)) then
 (b true)
 else
 ((Vm.zlt a.2.1 (-1)).bind fun w=>
 b w)))))) fun e=>
 bif decide (1048576< (x0.length:Int)) then
 (e true)
 else
 (e (decide (1048576< (x1.length:Int))))
end Go.Vm
