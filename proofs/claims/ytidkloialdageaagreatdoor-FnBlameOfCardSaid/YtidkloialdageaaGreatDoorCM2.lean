/- Models of the functions: plain Lean, printed by a program of ours. Conditions: none. -/
import Derived.Test.YtidkloialdageaaGreatDoorCLw
import Derived.Test.YtidkloialdageaaGreatDoorCM0
import Derived.Test.YtidkloialdageaaGreatDoorCM1
namespace Go.Vm
open Go Go.Sx
set_option linter.unusedVariables false
set_option linter.unusedSimpArgs false
def impl_TreeGet (x0 : List Vm.File) (x1 : Str) : Option ((List Str) × Bool) :=
 (Vm.impl_TreeOk x0).bind fun z1 =>
 bif (!z1) then
 (some (([] : List Str), false))
 else
 ((Vm.impl_get x0 x1).bind fun z7 =>
 some (z7.1, z7.2))
def impl_Repo_line_l1 (x0 : Vm.Repo) (K8 : Int → List Int → Option ((List Int))) : Nat → Int → List Int → Option ((List Int))
 | 0, _, _ => none
 | m + 1, y3, y4 =>
 bif decide ((0 : Int) ≤ (y3 : Int)) then
 ((apM y4 [y3]).bind fun q17 =>
 (Vm.impl_Repo_first x0 y3).bind fun z25 =>
 impl_Repo_line_l1 x0 K8 m z25 q17)
 else
 (K8 y3 y4)
def impl_Repo_line (x0 : Vm.Repo) (x1 : Int) : Option ((List Int)) :=
 jn (fun (y3 : Int) (y4 : List Int) =>
 some y4) fun K8 =>
 impl_Repo_line_l1 x0 K8 ((x1 + 1 - 0).toNat + 1) x1 ([] : List Int)
def impl_AncLine (x0 : Vm.Repo) (x1 : Int) : Option ((List Int)) :=
 (Vm.impl_Repo_are x0 ([x1] : List Int)).bind fun z9 =>
 bif (!z9) then
 (some ([] : List Int))
 else
 ((Vm.impl_Repo_line x0 x1).bind fun z18 =>
 some z18)
def laws_smHas_l1 (x0 : List Str) (x1 : Str) (K4 : Bool → Int → Option (Bool)) : Nat → Bool → Int → Option (Bool)
 | 0, _, _ => none
 | m + 1, y1, y2 =>
 bif decide ((y2 : Int) < ((x0.length : Int) : Int)) then
 ((gi x0 y2).bind fun u9 =>
 bif (u9 == x1) then
 (some true)
 else
 (laws_smHas_l1 x0 x1 K4 m y1 (w64 (y2 + 1))))
 else
 (K4 y1 y2)
def laws_smHas (x0 : List Str) (x1 : Str) : Option (Bool) :=
 jn (fun (y1 : Bool) (y2 : Int) =>
 some false) fun K4 =>
 laws_smHas_l1 x0 x1 K4 (((x0.length : Int) - 0).toNat + 1) false 0
end Go.Vm
