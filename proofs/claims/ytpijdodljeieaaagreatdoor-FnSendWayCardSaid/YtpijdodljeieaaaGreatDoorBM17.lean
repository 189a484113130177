/- Models of the functions: plain Lean, printed by a program of ours. Conditions: none. -/
import Derived.Test.YtpijdodljeieaaaGreatDoorBLw
import Derived.Test.YtpijdodljeieaaaGreatDoorBM0
import Derived.Test.YtpijdodljeieaaaGreatDoorBM1
import Derived.Test.YtpijdodljeieaaaGreatDoorBM3
import Derived.Test.YtpijdodljeieaaaGreatDoorBM4
import Derived.Test.YtpijdodljeieaaaGreatDoorBM6
import Derived.Test.YtpijdodljeieaaaGreatDoorBM7
import Derived.Test.YtpijdodljeieaaaGreatDoorBM9
import Derived.Test.YtpijdodljeieaaaGreatDoorBM10
namespace Go.Vm
open Go Go.Sx
set_option linter.unusedVariables false
set_option linter.unusedSimpArgs false
def zjt (x0:List Byte):Option (Vm.Repo×Int×Int):=
 (Vm.zcM x0).bind fun c=>
 (Vm.zdm c).bind fun a=>
 (Vm.zgS (Vm.l30Rd.mk c.b a.2) (Vm.Repo.mk a.1.Commits a.1.Heads)).bind fun d=>
 (Vm.zgS (Vm.l30Rd.mk c.b d.2) (Vm.Repo.mk a.1.Commits a.1.Heads)).bind fun e=>
 some (Vm.Repo.mk a.1.Commits a.1.Heads,d.1,e.1)
def zlm (x0:Vm.Repo)(x1:Int):Option ((List Int)):=
 jn (fun(b:Bool)=>
 bif b then
 (some ([]:List Int))
 else
 ((Vm.zef x0 x1).bind fun c=>
 some c)) fun a=>
 (Vm.zby x0).bind fun d=>
 bif(!d) then
 (a true)
 else
 ((Vm.zex x1 0 (w64 ((x0.Commits.length:Int)-1))).bind fun e=>
 a (!e))
def zgx (b:(List Int))(c:List Int->Int->Option (Bool)):Nat->List Int->Int->Option (Bool)
 |0,_,_=>none
 |m+1,d,a=>
 bif decide (a< (b.length:Int)) then
 ((apM d [a]).bind fun e=>
 zgx b c m e (w64 (a+1)))
 else
 (c d a)
def zkx (x0:List Byte):Option (Bool):=
 bif decide (1048576< (x0.length:Int)) then
 (some true)
 else
 ((Vm.zjt x0).bind fun a=>
 (Vm.zfS (Vm.Repo.mk a.1.Commits a.1.Heads) a.2.1).bind fun c=>
 jn (fun(j:Bool)=>
 bif j then
 ((Vm.zlm (Vm.Repo.mk a.1.Commits a.1.Heads) a.2.1).bind fun k=>
 (Vm.ze3 c k).bind fun l=>
 some l)
 else
 ((Vm.zgd (Vm.Repo.mk a.1.Commits ([Vm.Head.mk ([120]:Str) a.2.1]:List Head))).bind fun f=>
 jn (fun(m:List Int) (A:Int)=>
 (Vm.zie (Vm.Repo.mk a.1.Commits a.1.Heads) c a.2.2).bind fun d=>
 (Vm.zgK (Vm.Repo.mk f.Commits f.Heads) m d.1 ([121]:Str)).bind fun b=>
 jn (fun(n:Bool)=>
 bif n then
 (jn (fun(o:Bool)=>
 some o) fun g=>
 bif d.2 then
 (bif b.2 then
 (g true)
 else
 (g (decide ((16:Int)< (w64 ((f.Commits.length:Int)+(d.1.length:Int)):Int)))))
 else
 (g false))
 else
 ((Vm.zgb (Vm.Repo.mk b.1.Commits b.1.Heads) ([121]:Str)).bind fun p=>
 (Vm.zge (Vm.Repo.mk b.1.Commits b.1.Heads) p).bind fun q=>
 jn (fun(r:Bool)=>
 some r) fun i=>
 (gi a.1.Commits a.2.2).bind fun s=>
 (Vm.zem q.1 s.Tree).bind fun t=>
 bif t then
 ((Vm.zgb (Vm.Repo.mk b.1.Commits b.1.Heads) ([121]:Str)).bind fun u=>
 (Vm.zfS (Vm.Repo.mk b.1.Commits b.1.Heads) u).bind fun v=>
 (Vm.zfS (Vm.Repo.mk a.1.Commits a.1.Heads) a.2.2).bind fun w=>
 i ((v.length:Int)==(w.length:Int)))
 else
 (i false))) fun h=>
 bif(!d.2) then
 (h true)
 else
 (bif(!b.2) then
 (h true)
 else
 (h ((d.1.length:Int)==0)))) fun x=>
 zgx c x (((c.length:Int)-0).toNat+1) ([]:List Int) 0)) fun e=>
 (Vm.zlm (Vm.Repo.mk a.1.Commits a.1.Heads) a.2.1).bind fun y=>
 (Vm.ze3 c y).bind fun z=>
 bif(!z) then
 (e true)
 else
 (bif((c.length:Int)==0) then
 (e true)
 else
 (bif decide (a.2.2< (0:Int)) then
 (e true)
 else
 (e (decide (a.1.Commits.length<=(a.2.2:Int)))))))
end Go.Vm
