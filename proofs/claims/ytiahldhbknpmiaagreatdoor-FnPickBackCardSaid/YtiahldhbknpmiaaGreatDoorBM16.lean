/- Models of the functions: plain Lean, printed by a program of ours. Conditions: none. -/
import Derived.Test.YtiahldhbknpmiaaGreatDoorBLw
import Derived.Test.YtiahldhbknpmiaaGreatDoorBM0
import Derived.Test.YtiahldhbknpmiaaGreatDoorBM1
import Derived.Test.YtiahldhbknpmiaaGreatDoorBM3
import Derived.Test.YtiahldhbknpmiaaGreatDoorBM4
import Derived.Test.YtiahldhbknpmiaaGreatDoorBM8
import Derived.Test.YtiahldhbknpmiaaGreatDoorBM10
namespace Go.Vm
open Go Go.Sx
set_option linter.unusedVariables false
set_option linter.unusedSimpArgs false
def zio (x0:List Byte):Option (Vm.Repo×Str×Str×Int):=
 (Vm.zeF x0).bind fun a=>
 some (Vm.Repo.mk a.1.Commits a.1.Heads,a.2.1,a.2.2.1,a.2.2.2)
def zke (x0:List Byte):Option (Bool):=
 bif decide (1048576< (x0.length:Int)) then
 (some true)
 else
 ((Vm.zio x0).bind fun a=>
 (Vm.ziP (Vm.Repo.mk a.1.Commits a.1.Heads) a.2.1 a.2.2.1 a.2.2.2).bind fun b=>
 (Vm.zbU (Vm.Repo.mk a.1.Commits a.1.Heads) a.2.1 a.2.2.1 a.2.2.2).bind fun d=>
 jn (fun(i:Bool)=>
 bif i then
 (jn (fun(j:Bool)=>
 some j) fun f=>
 bif((b.2:Int)==(d.2:Int)) then
 ((Vm.zgH (Vm.Repo.mk b.1.Commits b.1.Heads) d.1).bind fun k=>
 f k)
 else
 (f false))
 else
 (bif(b.2 !=0) then
 ((Vm.zgH (Vm.Repo.mk b.1.Commits b.1.Heads) (Vm.Repo.mk a.1.Commits a.1.Heads)).bind fun l=>
 some l)
 else
 ((Vm.zgI (Vm.Repo.mk b.1.Commits b.1.Heads) a.2.1).bind fun g=>
 (Vm.zfk (Vm.Repo.mk b.1.Commits b.1.Heads) g).bind fun m=>
 jn (fun(n:List Vm.File)=>
 jn (fun(o:Bool)=>
 some o) fun c=>
 (Vm.zdg (Vm.Repo.mk b.1.Commits b.1.Heads)).bind fun p=>
 bif p then
 ((Vm.zhF (Vm.Repo.mk b.1.Commits b.1.Heads) (Vm.Repo.mk a.1.Commits a.1.Heads)).bind fun q=>
 bif q then
 ((gi b.1.Commits g).bind fun r=>
 (Vm.zgI (Vm.Repo.mk a.1.Commits a.1.Heads) a.2.1).bind fun s=>
 (Vm.zfg r.Parents ([s]:List Int)).bind fun t=>
 bif t then
 ((Vm.zgI (Vm.Repo.mk a.1.Commits a.1.Heads) a.2.1).bind fun u=>
 bif((a.2.2.2:Int) !=(u:Int)) then
 (c true)
 else
 ((Vm.zfG m.1 n).bind fun v=>
 c v))
 else
 (c false))
 else
 (c false))
 else
 (c false)) fun h=>
 (gi a.1.Commits a.2.2.2).bind fun w=>
 bif decide (0< (w.Parents.length:Int)) then
 ((gi a.1.Commits a.2.2.2).bind fun x=>
 (gi x.Parents 0).bind fun y=>
 (gi a.1.Commits y).bind fun z=>
 h z.Tree)
 else
 (h ([]:List File))))) fun e=>
 bif((b.2:Int) !=(d.2:Int)) then
 (e true)
 else
 ((Vm.zgH (Vm.Repo.mk b.1.Commits b.1.Heads) d.1).bind fun A=>
 bif(!A) then
 (e true)
 else
 ((Vm.zdg (Vm.Repo.mk a.1.Commits a.1.Heads)).bind fun B=>
 e (!B))))
end Go.Vm
