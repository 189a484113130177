/- Models of the functions: plain Lean, printed by a program of ours. Conditions: none. -/
import Derived.Test.YtkfeiopifiejgaaGreatDoorXLw
import Derived.Test.YtkfeiopifiejgaaGreatDoorXM0
import Derived.Test.YtkfeiopifiejgaaGreatDoorXM3
namespace Go.Vm
open Go Go.Sx
set_option linter.unusedVariables false
set_option linter.unusedSimpArgs false

def impl_Repo_since_l2 (z33 : (List Int)) (K45 : Int → List Bool → Option ((List Int))) : Nat → Int → List Bool → Option ((List Int))
  | 0, _, _ => none
  | m + 1, y41, y42 =>
    bif decide ((y41 : Int) < ((z33.length : Int) : Int)) then
      ((gi z33 y41).bind fun u52 =>
      (gi y42 u52).bind fun u54 =>
      (siM y42 u52 false).bind fun q57 =>
      impl_Repo_since_l2 z33 K45 m (w64 (y41 + 1)) q57)
    else
      (K45 y41 y42)

def impl_Repo_since_l1 (x0 : Vm.Repo) (x2 : List Int) (K17 : Int → List Bool → Option ((List Int))) : Nat → Int → List Bool → Option ((List Int))
  | 0, _, _ => none
  | m + 1, y13, y14 =>
    bif decide ((y13 : Int) < ((x2.length : Int) : Int)) then
      ((gi x2 y13).bind fun u22 =>
      (Vm.impl_Repo_ancestors x0 u22).bind fun z27 =>
      (Vm.impl_listOf z27).bind fun z33 =>
      jn (fun (y41 : Int) (y42 : List Bool) =>
        impl_Repo_since_l1 x0 x2 K17 m (w64 (y13 + 1)) y42) fun K45 =>
      impl_Repo_since_l2 z33 K45 (((z33.length : Int) - 0).toNat + 1) 0 y14)
    else
      (K17 y13 y14)

def impl_Repo_since (x0 : Vm.Repo) (x1 : Int) (x2 : List Int) : Option ((List Int)) :=
  (Vm.impl_Repo_ancestors x0 x1).bind fun z5 =>
  jn (fun (y13 : Int) (y14 : List Bool) =>
    (Vm.impl_listOf y14).bind fun z63 =>
    some z63) fun K17 =>
  impl_Repo_since_l1 x0 x2 K17 (((x2.length : Int) - 0).toNat + 1) 0 z5

end Go.Vm
