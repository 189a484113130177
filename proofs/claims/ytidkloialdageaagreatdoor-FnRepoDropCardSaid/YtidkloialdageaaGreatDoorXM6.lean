/- Models of the functions: plain Lean, printed by a program of ours. Conditions: none. -/
import Derived.Test.YtidkloialdageaaGreatDoorXLw
import Derived.Test.YtidkloialdageaaGreatDoorXM0
import Derived.Test.YtidkloialdageaaGreatDoorXM1
import Derived.Test.YtidkloialdageaaGreatDoorXM2
import Derived.Test.YtidkloialdageaaGreatDoorXM3
namespace Go.Vm
open Go Go.Sx
set_option linter.unusedVariables false
set_option linter.unusedSimpArgs false

def spec_DrawRepoAt (x0 : List Byte) : Option (Vm.Repo × Str) :=
  (Vm.spec_l30Open x0).bind fun z4 =>
  (Vm.spec_l30AnyRepo z4).bind fun z10 =>
  (Vm.spec_l30Rd_of (Vm.l30Rd.mk z4.b z10.2) ([([109, 97, 105, 110] : Str), ([115, 105, 100, 101] : Str), ([110, 111, 110, 101] : Str)] : List Str)).bind fun z42 =>
  some (Vm.Repo.mk z10.1.Commits z10.1.Heads, z42.1)

def spec_DrawRepoDrop (x0 : List Byte) : Option (Vm.Repo × Str) :=
  (Vm.spec_DrawRepoAt x0).bind fun z4 =>
  some (Vm.Repo.mk z4.1.Commits z4.1.Heads, z4.2)

def laws_smKeeps_l1 (x0 : Vm.Repo) (x1 : Vm.Repo) (K12 : Bool → Int → Option (Bool)) : Nat → Bool → Int → Option (Bool)
  | 0, _, _ => none
  | m + 1, y9, y10 =>
    bif decide ((y10 : Int) < ((x1.Commits.length : Int) : Int)) then
      ((gi x0.Commits y10).bind fun u23 =>
      (gi x1.Commits y10).bind fun u33 =>
      (Vm.laws_smCommit u23 u33).bind fun z43 =>
      bif (!z43) then
        (some false)
      else
        (laws_smKeeps_l1 x0 x1 K12 m y9 (w64 (y10 + 1))))
    else
      (K12 y9 y10)

def laws_smKeeps (x0 : Vm.Repo) (x1 : Vm.Repo) : Option (Bool) :=
  bif decide (((x0.Commits.length : Int) : Int) < ((x1.Commits.length : Int) : Int)) then
    (some false)
  else
    (jn (fun (y9 : Bool) (y10 : Int) =>
      some true) fun K12 =>
    laws_smKeeps_l1 x0 x1 K12 (((x1.Commits.length : Int) - 0).toNat + 1) false 0)

def laws_FnRepoDrop (x0 : List Byte) : Option (Bool) :=
  bif decide ((1048576 : Int) < ((x0.length : Int) : Int)) then
    (some true)
  else
    ((Vm.spec_DrawRepoDrop x0).bind fun z2 =>
    (Vm.impl_RepoDrop (Vm.Repo.mk z2.1.Commits z2.1.Heads) z2.2).bind fun z15 =>
    (Vm.spec_RepoDrop (Vm.Repo.mk z2.1.Commits z2.1.Heads) z2.2).bind fun z36 =>
    jn (fun (y66 : Bool) =>
      bif y66 then
        (jn (fun (y80 : Bool) =>
          some y80) fun K82 =>
        bif (z15.2 == z36.2) then
          ((Vm.laws_smRepo (Vm.Repo.mk z15.1.Commits z15.1.Heads) (Vm.Repo.mk z36.1.Commits z36.1.Heads)).bind fun z94 =>
          K82 z94)
        else
          (K82 false))
      else
        (jn (fun (y107 : Bool) =>
          some y107) fun K109 =>
        (Vm.impl_RepoOk (Vm.Repo.mk z15.1.Commits z15.1.Heads)).bind fun z121 =>
        bif z121 then
          ((Vm.impl_RepoAt (Vm.Repo.mk z15.1.Commits z15.1.Heads) z2.2).bind fun z136 =>
          bif ((z136 : Int) == ((-1) : Int)) then
            ((Vm.impl_RepoAt (Vm.Repo.mk z2.1.Commits z2.1.Heads) z2.2).bind fun z151 =>
            bif (z15.2 == (decide ((0 : Int) ≤ (z151 : Int)))) then
              ((Vm.laws_smKeeps (Vm.Repo.mk z15.1.Commits z15.1.Heads) (Vm.Repo.mk z2.1.Commits z2.1.Heads)).bind fun z165 =>
              bif z165 then
                (K109 (((z15.1.Commits.length : Int) : Int) == ((z2.1.Commits.length : Int) : Int)))
              else
                (K109 false))
            else
              (K109 false))
          else
            (K109 false))
        else
          (K109 false))) fun K68 =>
    bif (z15.2 != z36.2) then
      (K68 true)
    else
      ((Vm.laws_smRepo (Vm.Repo.mk z15.1.Commits z15.1.Heads) (Vm.Repo.mk z36.1.Commits z36.1.Heads)).bind fun z180 =>
      bif (!z180) then
        (K68 true)
      else
        ((Vm.impl_RepoOk (Vm.Repo.mk z2.1.Commits z2.1.Heads)).bind fun z195 =>
        K68 (!z195))))

end Go.Vm
