/- Models of the functions: plain Lean, printed by a program of ours. Conditions: none. -/
import Derived.Test.YtpijdodljeieaaaGreatDoorBLw
import Derived.Test.YtpijdodljeieaaaGreatDoorBM0
import Derived.Test.YtpijdodljeieaaaGreatDoorBM4
import Derived.Test.YtpijdodljeieaaaGreatDoorBM6
import Derived.Test.YtpijdodljeieaaaGreatDoorBM7
import Derived.Test.YtpijdodljeieaaaGreatDoorBM8
import Derived.Test.YtpijdodljeieaaaGreatDoorBM9
import Derived.Test.YtpijdodljeieaaaGreatDoorBM10
import Derived.Test.YtpijdodljeieaaaGreatDoorBM12
namespace Go.Vm
open Go Go.Sx
set_option linter.unusedVariables false
set_option linter.unusedSimpArgs false
def zjZ (x0:List Byte):Option (Bool):=
 bif decide (1048576< (x0.length:Int)) then
 (some true)
 else
 ((Vm.zfQ x0).bind fun b=>
 (Vm.zgd (Vm.Repo.mk b.Commits b.Heads)).bind fun a=>
 jn (fun(k:Bool)=>
 bif k then
 ((Vm.zhg (Vm.Repo.mk b.Commits b.Heads)).bind fun g=>
 (Vm.zgc (Vm.Repo.mk a.Commits a.Heads) (Vm.Repo.mk g.Commits g.Heads)).bind fun l=>
 some l)
 else
 ((gi a.Heads 0).bind fun d=>
 (Vm.zie (Vm.Repo.mk a.Commits a.Heads) ([]:List Int) d.At).bind fun h=>
 (Vm.zgK (Vm.Repo.mk ([]:List Commit) ([]:List Head)) ([]:List Int) h.1 d.Name).bind fun c=>
 (Vm.zgb (Vm.Repo.mk c.1.Commits c.1.Heads) d.Name).bind fun m=>
 (Vm.zge (Vm.Repo.mk c.1.Commits c.1.Heads) m).bind fun i=>
 jn (fun(n:Bool)=>
 some n) fun e=>
 bif h.2 then
 (bif c.2 then
 (bif i.2 then
 ((gi a.Commits d.At).bind fun o=>
 (Vm.zem i.1 o.Tree).bind fun p=>
 bif p then
 ((Vm.zfS (Vm.Repo.mk a.Commits a.Heads) d.At).bind fun q=>
 e ((c.1.Commits.length:Int)==(q.length:Int)))
 else
 (e false))
 else
 (e false))
 else
 (e false))
 else
 (e false))) fun f=>
 (Vm.zhg (Vm.Repo.mk b.Commits b.Heads)).bind fun j=>
 (Vm.zgc (Vm.Repo.mk a.Commits a.Heads) (Vm.Repo.mk j.Commits j.Heads)).bind fun r=>
 bif(!r) then
 (f true)
 else
 ((Vm.zde (Vm.Repo.mk b.Commits b.Heads)).bind fun s=>
 bif(!s) then
 (f true)
 else
 (f ((a.Heads.length:Int)==0))))
end Go.Vm
