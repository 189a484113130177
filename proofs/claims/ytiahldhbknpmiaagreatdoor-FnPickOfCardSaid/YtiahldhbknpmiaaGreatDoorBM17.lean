/- Models of the functions: plain Lean, printed by a program of ours. Conditions: none. -/
import Derived.Test.YtiahldhbknpmiaaGreatDoorBLw
import Derived.Test.YtiahldhbknpmiaaGreatDoorBM0
import Derived.Test.YtiahldhbknpmiaaGreatDoorBM1
import Derived.Test.YtiahldhbknpmiaaGreatDoorBM3
import Derived.Test.YtiahldhbknpmiaaGreatDoorBM4
import Derived.Test.YtiahldhbknpmiaaGreatDoorBM9
import Derived.Test.YtiahldhbknpmiaaGreatDoorBM10
namespace Go.Vm
open Go Go.Sx
set_option linter.unusedVariables false
set_option linter.unusedSimpArgs false
def zlp (x0:List Byte):Option (Bool):=
 bif decide (1048576< (x0.length:Int)) then
 (some true)
 else
 ((Vm.zhG x0).bind fun a=>
 (Vm.zkg (Vm.Repo.mk a.1.Commits a.1.Heads) a.2.1 a.2.2.1 a.2.2.2).bind fun b=>
 (Vm.zcD (Vm.Repo.mk a.1.Commits a.1.Heads) a.2.1 a.2.2.1 a.2.2.2).bind fun d=>
 jn (fun(m:Bool)=>
 bif m then
 (jn (fun(n:Bool)=>
 some n) fun g=>
 bif((b.2:Int)==(d.2:Int)) then
 ((Vm.zgH (Vm.Repo.mk b.1.Commits b.1.Heads) d.1).bind fun o=>
 g o)
 else
 (g false))
 else
 (bif(b.2 !=0) then
 ((Vm.zgH (Vm.Repo.mk b.1.Commits b.1.Heads) (Vm.Repo.mk a.1.Commits a.1.Heads)).bind fun p=>
 some p)
 else
 ((Vm.zgI (Vm.Repo.mk a.1.Commits a.1.Heads) a.2.1).bind fun e=>
 (Vm.zgI (Vm.Repo.mk b.1.Commits b.1.Heads) a.2.1).bind fun h=>
 jn (fun(q:List Vm.File)=>
 (gi a.1.Commits e).bind fun r=>
 (gi a.1.Commits a.2.2.2).bind fun s=>
 (Vm.zd4 q r.Tree s.Tree).bind fun i=>
 (Vm.zfk (Vm.Repo.mk b.1.Commits b.1.Heads) h).bind fun j=>
 jn (fun(t:Bool)=>
 jn (fun(u:Bool)=>
 some u) fun c=>
 (Vm.zdg (Vm.Repo.mk b.1.Commits b.1.Heads)).bind fun v=>
 bif v then
 ((Vm.zhF (Vm.Repo.mk b.1.Commits b.1.Heads) (Vm.Repo.mk a.1.Commits a.1.Heads)).bind fun w=>
 bif w then
 ((gi b.1.Commits h).bind fun x=>
 (Vm.zfg x.Parents ([e]:List Int)).bind fun y=>
 bif y then
 (bif i.2 then
 ((Vm.zfG j.1 i.1).bind fun z=>
 bif z then
 (bif(!t) then
 (c true)
 else
 ((gi a.1.Commits a.2.2.2).bind fun A=>
 (Vm.zfG j.1 A.Tree).bind fun B=>
 c B))
 else
 (c false))
 else
 (c false))
 else
 (c false))
 else
 (c false))
 else
 (c false)) fun k=>
 (gi a.1.Commits a.2.2.2).bind fun C=>
 bif decide (0< (C.Parents.length:Int)) then
 ((gi a.1.Commits a.2.2.2).bind fun D=>
 (gi D.Parents 0).bind fun E=>
 k ((E:Int)==(e:Int)))
 else
 (k false)) fun l=>
 (gi a.1.Commits a.2.2.2).bind fun F=>
 bif decide (0< (F.Parents.length:Int)) then
 ((gi a.1.Commits a.2.2.2).bind fun G=>
 (gi G.Parents 0).bind fun H=>
 (gi a.1.Commits H).bind fun I=>
 l I.Tree)
 else
 (l ([]:List File))))) fun f=>
 bif((b.2:Int) !=(d.2:Int)) then
 (f true)
 else
 ((Vm.zgH (Vm.Repo.mk b.1.Commits b.1.Heads) d.1).bind fun J=>
 bif(!J) then
 (f true)
 else
 ((Vm.zdg (Vm.Repo.mk a.1.Commits a.1.Heads)).bind fun K=>
 f (!K))))
end Go.Vm
