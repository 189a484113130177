/- Models of the functions: plain Lean, printed by a program of ours. Conditions: none. -/
import Derived.Test.YtidkloialdageaaGreatDoorXLw
import Derived.Test.YtidkloialdageaaGreatDoorXM0
namespace Go.Vm
open Go Go.Sx
set_option linter.unusedVariables false
set_option linter.unusedSimpArgs false

def impl_copyText (x0 : List Str) : Option ((List Str)) :=
  (apM ([] : List Str) x0).bind fun q3 =>
  some q3

def impl_copyTree_l1 (x0 : List Vm.File) (K7 : List Vm.File → Int → Option ((List Vm.File))) : Nat → List Vm.File → Int → Option ((List Vm.File))
  | 0, _, _ => none
  | m + 1, y1, y5 =>
    bif decide ((y5 : Int) < ((x0.length : Int) : Int)) then
      ((gi x0 y5).bind fun u11 =>
      (Vm.impl_copyText u11.Text).bind fun z30 =>
      (apM y1 [Vm.File.mk u11.Path z30]).bind fun q41 =>
      impl_copyTree_l1 x0 K7 m q41 (w64 (y5 + 1)))
    else
      (K7 y1 y5)

def impl_copyTree (x0 : List Vm.File) : Option ((List Vm.File)) :=
  jn (fun (y1 : List Vm.File) (y5 : Int) =>
    some y1) fun K7 =>
  impl_copyTree_l1 x0 K7 (((x0.length : Int) - 0).toNat + 1) ([] : List File) 0

def laws_smCommit (x0 : Vm.Commit) (x1 : Vm.Commit) : Option (Bool) :=
  jn (fun (y6 : Bool) =>
    some y6) fun K8 =>
  bif (x0.Who == x1.Who) then
    ((Vm.laws_smInts x0.Parents x1.Parents).bind fun z15 =>
    bif z15 then
      ((Vm.laws_smTree x0.Tree x1.Tree).bind fun z24 =>
      K8 z24)
    else
      (K8 false))
  else
    (K8 false)

def laws_smRepo_l2 (x0 : Vm.Repo) (x1 : Vm.Repo) (K57 : Bool → Int → Option (Bool)) : Nat → Bool → Int → Option (Bool)
  | 0, _, _ => none
  | m + 1, y54, y55 =>
    bif decide ((y55 : Int) < ((x0.Heads.length : Int) : Int)) then
      ((gi x0.Heads y55).bind fun u68 =>
      (gi x1.Heads y55).bind fun u74 =>
      bif (!(u68.Name == u74.Name && u68.At == u74.At)) then
        (some false)
      else
        (laws_smRepo_l2 x0 x1 K57 m y54 (w64 (y55 + 1))))
    else
      (K57 y54 y55)

def laws_smRepo_l1 (x0 : Vm.Repo) (x1 : Vm.Repo) (K16 : Bool → Int → Option (Bool)) : Nat → Bool → Int → Option (Bool)
  | 0, _, _ => none
  | m + 1, y13, y14 =>
    bif decide ((y14 : Int) < ((x0.Commits.length : Int) : Int)) then
      ((gi x0.Commits y14).bind fun u27 =>
      (gi x1.Commits y14).bind fun u37 =>
      (Vm.laws_smCommit u27 u37).bind fun z47 =>
      bif (!z47) then
        (some false)
      else
        (laws_smRepo_l1 x0 x1 K16 m y13 (w64 (y14 + 1))))
    else
      (K16 y13 y14)

def laws_smRepo (x0 : Vm.Repo) (x1 : Vm.Repo) : Option (Bool) :=
  jn (fun (y6 : Bool) =>
    bif y6 then
      (some false)
    else
      (jn (fun (y13 : Bool) (y14 : Int) =>
        jn (fun (y54 : Bool) (y55 : Int) =>
          some true) fun K57 =>
        laws_smRepo_l2 x0 x1 K57 (((x0.Heads.length : Int) - 0).toNat + 1) y13 0) fun K16 =>
      laws_smRepo_l1 x0 x1 K16 (((x0.Commits.length : Int) - 0).toNat + 1) false 0)) fun K8 =>
  bif (((x0.Commits.length : Int) : Int) != ((x1.Commits.length : Int) : Int)) then
    (K8 true)
  else
    (K8 (((x0.Heads.length : Int) : Int) != ((x1.Heads.length : Int) : Int)))

def impl_Repo_at_l1 (x0 : Vm.Repo) (x1 : Str) (K8 : Int → Int → Option (Int)) : Nat → Int → Int → Option (Int)
  | 0, _, _ => none
  | m + 1, y4, y6 =>
    bif decide ((y6 : Int) < ((x0.Heads.length : Int) : Int)) then
      ((gi x0.Heads y6).bind fun u13 =>
      bif (u13.Name == x1) then
        (some u13.At)
      else
        (impl_Repo_at_l1 x0 x1 K8 m y4 (w64 (y6 + 1))))
    else
      (K8 y4 y6)

def impl_Repo_at (x0 : Vm.Repo) (x1 : Str) : Option (Int) :=
  jn (fun (y4 : Int) (y6 : Int) =>
    some (-1)) fun K8 =>
  impl_Repo_at_l1 x0 x1 K8 (((x0.Heads.length : Int) - 0).toNat + 1) 0 0

def impl_RepoAt (x0 : Vm.Repo) (x1 : Str) : Option (Int) :=
  (Vm.impl_RepoOk x0).bind fun z6 =>
  bif (!z6) then
    (some (-1))
  else
    ((Vm.impl_Repo_at x0 x1).bind fun z14 =>
    some z14)

end Go.Vm
