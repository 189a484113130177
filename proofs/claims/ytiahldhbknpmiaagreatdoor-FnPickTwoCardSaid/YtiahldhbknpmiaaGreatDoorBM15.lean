/- Models of the functions: plain Lean, printed by a program of ours. Conditions: none. -/
import Derived.Test.YtiahldhbknpmiaaGreatDoorBLw
import Derived.Test.YtiahldhbknpmiaaGreatDoorBM0
import Derived.Test.YtiahldhbknpmiaaGreatDoorBM3
import Derived.Test.YtiahldhbknpmiaaGreatDoorBM4
import Derived.Test.YtiahldhbknpmiaaGreatDoorBM8
import Derived.Test.YtiahldhbknpmiaaGreatDoorBM9
namespace Go.Vm
open Go Go.Sx
set_option linter.unusedVariables false
set_option linter.unusedSimpArgs false
def zkI (x0:List Byte):Option (Bool):=
 bif decide (1048576< (x0.length:Int)) then
 (some true)
 else
 ((Vm.zhG x0).bind fun a=>
 (Vm.zkg (Vm.Repo.mk a.1.Commits a.1.Heads) a.2.1 a.2.2.1 a.2.2.2).bind fun b=>
 (Vm.zcD (Vm.Repo.mk a.1.Commits a.1.Heads) a.2.1 a.2.2.1 a.2.2.2).bind fun d=>
 jn (fun(h:Bool)=>
 bif h then
 (jn (fun(i:Bool)=>
 some i) fun g=>
 bif((b.2:Int)==(d.2:Int)) then
 ((Vm.zgH (Vm.Repo.mk b.1.Commits b.1.Heads) d.1).bind fun j=>
 g j)
 else
 (g false))
 else
 ((Vm.zgI (Vm.Repo.mk b.1.Commits b.1.Heads) a.2.1).bind fun k=>
 (Vm.ziP (Vm.Repo.mk b.1.Commits b.1.Heads) a.2.1 a.2.2.1 k).bind fun c=>
 (Vm.zgI (Vm.Repo.mk a.1.Commits a.1.Heads) a.2.1).bind fun l=>
 (Vm.zfk (Vm.Repo.mk a.1.Commits a.1.Heads) l).bind fun m=>
 (Vm.zgI (Vm.Repo.mk c.1.Commits c.1.Heads) a.2.1).bind fun n=>
 (Vm.zfk (Vm.Repo.mk c.1.Commits c.1.Heads) n).bind fun o=>
 jn (fun(p:Bool)=>
 some p) fun e=>
 bif(c.2==5) then
 (e true)
 else
 (bif(c.2==0) then
 ((Vm.zfG o.1 m.1).bind fun q=>
 e q)
 else
 (e false)))) fun f=>
 bif((b.2:Int) !=(d.2:Int)) then
 (f true)
 else
 ((Vm.zgH (Vm.Repo.mk b.1.Commits b.1.Heads) d.1).bind fun r=>
 bif(!r) then
 (f true)
 else
 (f (b.2 !=0))))
end Go.Vm
