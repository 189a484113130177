/- Models of the functions: plain Lean, printed by a program of ours. Conditions: none. -/
import Derived.Test.YtkfeiopifiejgaaGreatDoorXLw
import Derived.Test.YtkfeiopifiejgaaGreatDoorXM0
import Derived.Test.YtkfeiopifiejgaaGreatDoorXM1
import Derived.Test.YtkfeiopifiejgaaGreatDoorXM4
import Derived.Test.YtkfeiopifiejgaaGreatDoorXM5
import Derived.Test.YtkfeiopifiejgaaGreatDoorXM7
import Derived.Test.YtkfeiopifiejgaaGreatDoorXM9
namespace Go.Vm
open Go Go.Sx
set_option linter.unusedVariables false
set_option linter.unusedSimpArgs false

def laws_FnLogLeft_l3 (z7 : Vm.Repo × (List Int) × Int) (y94 : Int) (K120 : Bool → Int → Option (Bool)) : Nat → Bool → Int → Option (Bool)
  | 0, _, _ => none
  | m + 1, y117, y118 =>
    bif decide ((y118 : Int) < ((z7.2.1.length : Int) : Int)) then
      (bif y117 then
        ((gi z7.2.1 y118).bind fun u137 =>
        (Vm.impl_AncIs (Vm.Repo.mk z7.1.Commits z7.1.Heads) y94 u137).bind fun z140 =>
        laws_FnLogLeft_l3 z7 y94 K120 m (!z140) (w64 (y118 + 1)))
      else
        (laws_FnLogLeft_l3 z7 y94 K120 m false (w64 (y118 + 1))))
    else
      (K120 y117 y118)

def laws_FnLogLeft_l2 (z7 : Vm.Repo × (List Int) × Int) (z22 : (List Int)) (K98 : Bool → Int → Option (Bool)) : Nat → Bool → Int → Option (Bool)
  | 0, _, _ => none
  | m + 1, y93, y94 =>
    bif decide ((y94 : Int) < ((z7.1.Commits.length : Int) : Int)) then
      ((Vm.impl_AncIs (Vm.Repo.mk z7.1.Commits z7.1.Heads) y94 z7.2.2).bind fun z108 =>
      jn (fun (y117 : Bool) (y118 : Int) =>
        (Vm.laws_smIn z22 y94).bind fun z149 =>
        bif (y117 != z149) then
          (some false)
        else
          (laws_FnLogLeft_l2 z7 z22 K98 m y93 (w64 (y94 + 1)))) fun K120 =>
      laws_FnLogLeft_l3 z7 y94 K120 (((z7.2.1.length : Int) - 0).toNat + 1) z108 0)
    else
      (K98 y93 y94)

def laws_FnLogLeft_l1 (z7 : Vm.Repo × (List Int) × Int) (K62 : Bool → Int → Option (Bool)) : Nat → Bool → Int → Option (Bool)
  | 0, _, _ => none
  | m + 1, y59, y60 =>
    bif decide ((y60 : Int) < ((z7.2.1.length : Int) : Int)) then
      (jn (fun (y71 : Bool) =>
        bif y71 then
          (some true)
        else
          (laws_FnLogLeft_l1 z7 K62 m y59 (w64 (y60 + 1)))) fun K73 =>
      (gi z7.2.1 y60).bind fun u88 =>
      bif decide ((u88 : Int) < (0 : Int)) then
        (K73 true)
      else
        ((gi z7.2.1 y60).bind fun u91 =>
        K73 (decide (((z7.1.Commits.length : Int) : Int) ≤ (u91 : Int)))))
    else
      (K62 y59 y60)

def laws_FnLogLeft (x0 : List Byte) (x1 : List Byte) : Option (Bool) :=
  jn (fun (y1 : Bool) =>
    bif y1 then
      (some true)
    else
      ((Vm.spec_DrawLogLeft x0).bind fun z7 =>
      (Vm.impl_LogLeft (Vm.Repo.mk z7.1.Commits z7.1.Heads) z7.2.1 z7.2.2).bind fun z22 =>
      jn (fun (y30 : Bool) =>
        bif y30 then
          ((Vm.spec_LogLeft (Vm.Repo.mk z7.1.Commits z7.1.Heads) z7.2.1 z7.2.2).bind fun z40 =>
          (Vm.laws_smInts z22 z40).bind fun z49 =>
          some z49)
        else
          (jn (fun (y59 : Bool) (y60 : Int) =>
            jn (fun (y93 : Bool) (y94 : Int) =>
              (apM ([] : List Int) z7.2.1).bind fun q173 =>
              (if ((z7.1.Commits.length : Int) : Int) = 0 then none else some ()).bind fun _ =>
              (apM q173 [Int.tmod (x1.length : Int) (z7.1.Commits.length : Int)]).bind fun q192 =>
              (Vm.impl_LogLeft (Vm.Repo.mk z7.1.Commits z7.1.Heads) q192 z7.2.2).bind fun z203 =>
              jn (fun (y380 : Bool) =>
                some y380) fun K382 =>
              bif decide (((z203.length : Int) : Int) ≤ ((z22.length : Int) : Int)) then
                ((Vm.impl_LogLeft (Vm.Repo.mk z7.1.Commits z7.1.Heads) ([] : List Int) z7.2.2).bind fun z404 =>
                (Vm.impl_AncAll (Vm.Repo.mk z7.1.Commits z7.1.Heads) z7.2.2).bind fun z417 =>
                (Vm.laws_smInts z404 z417).bind fun z430 =>
                K382 z430)
              else
                (K382 false)) fun K98 =>
            laws_FnLogLeft_l2 z7 z22 K98 (((z7.1.Commits.length : Int) - 0).toNat + 1) y59 0) fun K62 =>
          laws_FnLogLeft_l1 z7 K62 (((z7.2.1.length : Int) - 0).toNat + 1) false 0)) fun K32 =>
      (Vm.spec_LogLeft (Vm.Repo.mk z7.1.Commits z7.1.Heads) z7.2.1 z7.2.2).bind fun z444 =>
      (Vm.laws_smInts z22 z444).bind fun z453 =>
      bif (!z453) then
        (K32 true)
      else
        ((Vm.impl_RepoOk (Vm.Repo.mk z7.1.Commits z7.1.Heads)).bind fun z465 =>
        bif (!z465) then
          (K32 true)
        else
          (bif decide ((z7.2.2 : Int) < (0 : Int)) then
            (K32 true)
          else
            (bif decide (((z7.1.Commits.length : Int) : Int) ≤ (z7.2.2 : Int)) then
              (K32 true)
            else
              ((Vm.laws_smIn z7.2.1 (-1)).bind fun z478 =>
              K32 z478)))))) fun K3 =>
  bif decide ((1048576 : Int) < ((x0.length : Int) : Int)) then
    (K3 true)
  else
    (K3 (decide ((1048576 : Int) < ((x1.length : Int) : Int))))

end Go.Vm
