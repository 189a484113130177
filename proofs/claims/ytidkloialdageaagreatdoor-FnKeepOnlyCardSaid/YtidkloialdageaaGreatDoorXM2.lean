/- Models of the functions: plain Lean, printed by a program of ours. Conditions: none. -/
import Derived.Test.YtidkloialdageaaGreatDoorXLw
import Derived.Test.YtidkloialdageaaGreatDoorXM0
namespace Go.Vm
open Go Go.Sx
set_option linter.unusedVariables false
set_option linter.unusedSimpArgs false

def spec_RepoDrop_l1 (x0 : Vm.Repo) (x1 : Str) (K61 : Int → List Vm.Commit → List Vm.Head → Option (Vm.Repo × Bool)) : Nat → Int → List Vm.Commit → List Vm.Head → Option (Vm.Repo × Bool)
  | 0, _, _, _ => none
  | m + 1, y52, y53, y56 =>
    bif decide ((y52 : Int) < ((x0.Heads.length : Int) : Int)) then
      (jn (fun (y70 : List Vm.Commit) (y73 : List Vm.Head) =>
        spec_RepoDrop_l1 x0 x1 K61 m (w64 (y52 + 1)) y70 y73) fun K78 =>
      (gi x0.Heads y52).bind fun u84 =>
      bif (u84.Name != x1) then
        ((gi x0.Heads y52).bind fun u96 =>
        (apM y56 [u96]).bind fun q111 =>
        K78 y53 q111)
      else
        (K78 y53 y56))
    else
      (K61 y52 y53 y56)

def spec_RepoDrop (x0 : Vm.Repo) (x1 : Str) : Option (Vm.Repo × Bool) :=
  (Vm.spec_l7Ok x0).bind fun z8 =>
  bif (!z8) then
    (some (Vm.Repo.mk ([] : List Commit) ([] : List Head), false))
  else
    ((Vm.spec_l7Copy x0).bind fun z20 =>
    jn (fun (y52 : Int) (y53 : List Vm.Commit) (y56 : List Vm.Head) =>
      some (Vm.Repo.mk y53 y56, decide (((y56.length : Int) : Int) < ((x0.Heads.length : Int) : Int)))) fun K61 =>
    spec_RepoDrop_l1 x0 x1 K61 (((x0.Heads.length : Int) - 0).toNat + 1) 0 z20.Commits ([] : List Head))

end Go.Vm
