/- Models of the functions: plain Lean, printed by a program of ours. Conditions: none. -/
import Derived.Test.YtokbhelngoeblaaGreatDoorCLw
import Derived.Test.YtokbhelngoeblaaGreatDoorCM0
import Derived.Test.YtokbhelngoeblaaGreatDoorCM2
namespace Go.Vm
open Go Go.Sx
set_option linter.unusedVariables false
set_option linter.unusedSimpArgs false
def zcM (x0 : Vm.Repo) (x1 : Int) : Option ((List Vm.File)) :=
 (gi x0.Commits x1).bind fun a =>
 bif (((a.Parents.length : Int) : Int) == (0 : Int)) then
 (some ([] : List File))
 else
 ((gi x0.Commits x1).bind fun b =>
 (gi b.Parents 0).bind fun c =>
 (gi x0.Commits c).bind fun d =>
 some d.Tree)
def zdZ (x0 : Vm.Repo) (x1 : Str) (x2 : Str) (x3 : List Vm.File) (x4 : List Vm.File) : Option (Vm.Repo × Int) :=
 (Vm.zc8 x0 x1).bind fun a =>
 (gi x0.Commits a).bind fun d =>
 (Vm.zgU x3 d.Tree x4).bind fun b =>
 bif decide ((0 : Int) < ((b.2.length : Int) : Int)) then
 (some (x0, 4))
 else
 ((Vm.zeL x0 x1 (Vm.Commit.mk ([a] : List Int) x2 b.1)).bind fun c =>
 (Vm.zc7 c).bind fun e =>
 bif (!e) then
 (some (x0, 5))
 else
 (some (c, 0)))
end Go.Vm
