/- Models of the functions: zm0 Lean, printed by a program of ours. Conditions: none. -/
import Derived.Test.YtokbhelngoeblaaGreatDoorBLw
import Derived.Test.YtokbhelngoeblaaGreatDoorBM0
import Derived.Test.YtokbhelngoeblaaGreatDoorBM1
import Derived.Test.YtokbhelngoeblaaGreatDoorBM2
import Derived.Test.YtokbhelngoeblaaGreatDoorBM4
namespace Go.Vm
open Go Go.Sx
set_option linter.unusedVariables false
set_option linter.unusedSimpArgs false
def zfV (x0 : List Byte) : Option (Vm.Repo × Str × Str × Int) :=
 (Vm.zcS x0).bind fun a =>
 some (Vm.Repo.mk a.1.Commits a.1.Heads, a.2.1, a.2.2.1, a.2.2.2)
def zhZ (x0 : List Byte) : Option (Bool) :=
 bif decide ((1048576 : Int) < ((x0.length : Int) : Int)) then
 (some true)
 else
 ((Vm.zfV x0).bind fun a =>
 (Vm.zgA (Vm.Repo.mk a.1.Commits a.1.Heads) a.2.1 a.2.2.1 a.2.2.2).bind fun b =>
 (Vm.zbN (Vm.Repo.mk a.1.Commits a.1.Heads) a.2.1 a.2.2.1 a.2.2.2).bind fun d =>
 jn (fun (i : Bool) =>
 bif i then
 (jn (fun (j : Bool) =>
 some j) fun f =>
 bif ((b.2 : Int) == (d.2 : Int)) then
 ((Vm.zew (Vm.Repo.mk b.1.Commits b.1.Heads) d.1).bind fun k =>
 f k)
 else
 (f false))
 else
 (bif ((b.2 : Int) != (0 : Int)) then
 ((Vm.zew (Vm.Repo.mk b.1.Commits b.1.Heads) (Vm.Repo.mk a.1.Commits a.1.Heads)).bind fun l =>
 some l)
 else
 ((Vm.zex (Vm.Repo.mk b.1.Commits b.1.Heads) a.2.1).bind fun g =>
 (Vm.zdv (Vm.Repo.mk b.1.Commits b.1.Heads) g).bind fun m =>
 jn (fun (n : List Vm.File) =>
 jn (fun (o : Bool) =>
 some o) fun c =>
 (Vm.zdc (Vm.Repo.mk b.1.Commits b.1.Heads)).bind fun p =>
 bif p then
 ((Vm.ze7 (Vm.Repo.mk b.1.Commits b.1.Heads) (Vm.Repo.mk a.1.Commits a.1.Heads)).bind fun q =>
 bif q then
 ((gi b.1.Commits g).bind fun r =>
 (Vm.zex (Vm.Repo.mk a.1.Commits a.1.Heads) a.2.1).bind fun s =>
 (Vm.zgz r.Parents ([s] : List Int)).bind fun t =>
 bif t then
 ((Vm.zex (Vm.Repo.mk a.1.Commits a.1.Heads) a.2.1).bind fun u =>
 bif ((a.2.2.2 : Int) != (u : Int)) then
 (c true)
 else
 ((Vm.zdL m.1 n).bind fun v =>
 c v))
 else
 (c false))
 else
 (c false))
 else
 (c false)) fun h =>
 (gi a.1.Commits a.2.2.2).bind fun w =>
 bif decide ((0 : Int) < ((w.Parents.length : Int) : Int)) then
 ((gi a.1.Commits a.2.2.2).bind fun x =>
 (gi x.Parents 0).bind fun y =>
 (gi a.1.Commits y).bind fun z =>
 h z.Tree)
 else
 (h ([] : List File))))) fun e =>
 bif ((b.2 : Int) != (d.2 : Int)) then
 (e true)
 else
 ((Vm.zew (Vm.Repo.mk b.1.Commits b.1.Heads) d.1).bind fun A =>
 bif (!A) then
 (e true)
 else
 ((Vm.zdc (Vm.Repo.mk a.1.Commits a.1.Heads)).bind fun B =>
 e (!B))))
end Go.Vm
