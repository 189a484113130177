/- Models of the functions: zm0 Lean, printed by a program of ours. Conditions: none. -/
import Derived.Test.YtokbhelngoeblaaGreatDoorBLw
import Derived.Test.YtokbhelngoeblaaGreatDoorBM0
import Derived.Test.YtokbhelngoeblaaGreatDoorBM1
import Derived.Test.YtokbhelngoeblaaGreatDoorBM2
import Derived.Test.YtokbhelngoeblaaGreatDoorBM3
namespace Go.Vm
open Go Go.Sx
set_option linter.unusedVariables false
set_option linter.unusedSimpArgs false
def ziG (x0 : List Byte) : Option (Bool) :=
 bif decide ((1048576 : Int) < ((x0.length : Int) : Int)) then
 (some true)
 else
 ((Vm.ze6 x0).bind fun a =>
 (Vm.zhY (Vm.Repo.mk a.1.Commits a.1.Heads) a.2.1 a.2.2.1 a.2.2.2).bind fun b =>
 (Vm.zci (Vm.Repo.mk a.1.Commits a.1.Heads) a.2.1 a.2.2.1 a.2.2.2).bind fun d =>
 jn (fun (h : Bool) =>
 bif h then
 (jn (fun (i : Bool) =>
 some i) fun g =>
 bif ((b.2 : Int) == (d.2 : Int)) then
 ((Vm.zew (Vm.Repo.mk b.1.Commits b.1.Heads) d.1).bind fun j =>
 g j)
 else
 (g false))
 else
 ((Vm.zex (Vm.Repo.mk b.1.Commits b.1.Heads) a.2.1).bind fun k =>
 (Vm.zgA (Vm.Repo.mk b.1.Commits b.1.Heads) a.2.1 a.2.2.1 k).bind fun c =>
 (Vm.zex (Vm.Repo.mk a.1.Commits a.1.Heads) a.2.1).bind fun l =>
 (Vm.zdv (Vm.Repo.mk a.1.Commits a.1.Heads) l).bind fun m =>
 (Vm.zex (Vm.Repo.mk c.1.Commits c.1.Heads) a.2.1).bind fun n =>
 (Vm.zdv (Vm.Repo.mk c.1.Commits c.1.Heads) n).bind fun o =>
 jn (fun (p : Bool) =>
 some p) fun e =>
 bif ((c.2 : Int) == (5 : Int)) then
 (e true)
 else
 (bif ((c.2 : Int) == (0 : Int)) then
 ((Vm.zdL o.1 m.1).bind fun q =>
 e q)
 else
 (e false)))) fun f =>
 bif ((b.2 : Int) != (d.2 : Int)) then
 (f true)
 else
 ((Vm.zew (Vm.Repo.mk b.1.Commits b.1.Heads) d.1).bind fun r =>
 bif (!r) then
 (f true)
 else
 (f ((b.2 : Int) != (0 : Int)))))
end Go.Vm
