/- Models of the functions: plain Lean, printed by a program of ours. Conditions: none. -/
import Derived.Test.YtidkloialdageaaGreatDoorXLw
import Derived.Test.YtidkloialdageaaGreatDoorXM0
namespace Go.Vm
open Go Go.Sx
set_option linter.unusedVariables false
set_option linter.unusedSimpArgs false

def impl_Repo_tree (x0 : Vm.Repo) (x1 : Int) : Option ((List Vm.File)) :=
  bif decide ((x1 : Int) < (0 : Int)) then
    (some ([] : List File))
  else
    ((gi x0.Commits x1).bind fun u4 =>
    some u4.Tree)

def impl_Repo_are_l1 (x0 : Vm.Repo) (x1 : List Int) (K17 : Bool → Int → Option (Bool)) : Nat → Bool → Int → Option (Bool)
  | 0, _, _ => none
  | m + 1, y13, y15 =>
    bif decide ((y15 : Int) < ((x1.length : Int) : Int)) then
      ((gi x1 y15).bind fun u22 =>
      (Vm.impl_Repo_exists x0 u22).bind fun z27 =>
      bif (!z27) then
        (some false)
      else
        (impl_Repo_are_l1 x0 x1 K17 m y13 (w64 (y15 + 1))))
    else
      (K17 y13 y15)

def impl_Repo_are (x0 : Vm.Repo) (x1 : List Int) : Option (Bool) :=
  (Vm.impl_RepoOk x0).bind fun z6 =>
  bif (!z6) then
    (some false)
  else
    (jn (fun (y13 : Bool) (y15 : Int) =>
      some true) fun K17 =>
    impl_Repo_are_l1 x0 x1 K17 (((x1.length : Int) - 0).toNat + 1) false 0)

def impl_Repo_ancestors_l2 (K30 : List Bool → Option ((List Bool))) (u36 : Vm.Commit)  : Nat → Int → List Bool → Option ((List Bool))
  | 0, _, _ => none
  | m + 1, y43, y44 =>
    bif decide ((y43 : Int) < ((u36.Parents.length : Int) : Int)) then
      ((gi u36.Parents y43).bind fun u52 =>
      (gi y44 u52).bind fun u55 =>
      (siM y44 u52 true).bind fun q58 =>
      impl_Repo_ancestors_l2 K30 u36 m (w64 (y43 + 1)) q58)
    else
      (K30 y44)

def impl_Repo_ancestors_l1 (x0 : Vm.Repo) (K21 : Int → List Bool → Option ((List Bool))) : Nat → Int → List Bool → Option ((List Bool))
  | 0, _, _ => none
  | m + 1, y16, y18 =>
    bif decide ((0 : Int) ≤ (y16 : Int)) then
      (jn (fun (y27 : List Bool) =>
        impl_Repo_ancestors_l1 x0 K21 m (w64 (y16 - 1)) y27) fun K30 =>
      (gi y18 y16).bind fun u33 =>
      bif u33 then
        ((gi x0.Commits y16).bind fun u36 =>
        impl_Repo_ancestors_l2 K30 u36 (((u36.Parents.length : Int) - 0).toNat + 1) 0 y18)
      else
        (K30 y18))
    else
      (K21 y16 y18)

def impl_Repo_ancestors (x0 : Vm.Repo) (x1 : Int) : Option ((List Bool)) :=
  (mkM (x0.Commits.length : Int) (false : Bool)).bind fun q4 =>
  (gi q4 x1).bind fun u9 =>
  (siM q4 x1 true).bind fun q12 =>
  jn (fun (y16 : Int) (y18 : List Bool) =>
    some y18) fun K21 =>
  impl_Repo_ancestors_l1 x0 K21 ((x1 + 1 - 0).toNat + 1) x1 q12

def impl_listOf_l1 (x0 : List Bool) (K8 : List Int → Int → Option ((List Int))) : Nat → List Int → Int → Option ((List Int))
  | 0, _, _ => none
  | m + 1, y1, y6 =>
    bif decide ((y6 : Int) < ((x0.length : Int) : Int)) then
      (jn (fun (y12 : List Int) =>
        impl_listOf_l1 x0 K8 m y12 (w64 (y6 + 1))) fun K18 =>
      (gi x0 y6).bind fun u20 =>
      bif u20 then
        ((apM y1 [y6]).bind fun q27 =>
        K18 q27)
      else
        (K18 y1))
    else
      (K8 y1 y6)

def impl_listOf (x0 : List Bool) : Option ((List Int)) :=
  jn (fun (y1 : List Int) (y6 : Int) =>
    some y1) fun K8 =>
  impl_listOf_l1 x0 K8 (((x0.length : Int) - 0).toNat + 1) ([] : List Int) 0

def impl_AncAll (x0 : Vm.Repo) (x1 : Int) : Option ((List Int)) :=
  (Vm.impl_Repo_are x0 ([x1] : List Int)).bind fun z9 =>
  bif (!z9) then
    (some ([] : List Int))
  else
    ((Vm.impl_Repo_ancestors x0 x1).bind fun z18 =>
    (Vm.impl_listOf z18).bind fun z24 =>
    some z24)

end Go.Vm
