/- Models of the functions: plain Lean, printed by a program of ours. Conditions: none. -/
import Derived.Test.YtkfeiopifiejgaaGreatDoorXLw
import Derived.Test.YtkfeiopifiejgaaGreatDoorXM0
import Derived.Test.YtkfeiopifiejgaaGreatDoorXM1
import Derived.Test.YtkfeiopifiejgaaGreatDoorXM4
import Derived.Test.YtkfeiopifiejgaaGreatDoorXM5
import Derived.Test.YtkfeiopifiejgaaGreatDoorXM6
import Derived.Test.YtkfeiopifiejgaaGreatDoorXM8
namespace Go.Vm
open Go Go.Sx
set_option linter.unusedVariables false
set_option linter.unusedSimpArgs false

def spec_DrawAncNew (x0 : List Byte) : Option (Vm.Repo × Int × Int) :=
  (Vm.spec_DrawAncIs x0).bind fun z4 =>
  some (Vm.Repo.mk z4.1.Commits z4.1.Heads, z4.2.1, z4.2.2)

def impl_AncNew (x0 : Vm.Repo) (x1 : Int) (x2 : Int) : Option ((List Int)) :=
  (Vm.impl_Repo_are x0 ([x1, x2] : List Int)).bind fun z9 =>
  bif (!z9) then
    (some ([] : List Int))
  else
    ((Vm.impl_Repo_since x0 x2 ([x1] : List Int)).bind fun z22 =>
    some z22)

def spec_AncNew_l1 (z15 : (List Int)) (z23 : (List Int)) (K35 : List Int → Int → Option ((List Int))) : Nat → List Int → Int → Option ((List Int))
  | 0, _, _ => none
  | m + 1, y30, y33 =>
    bif decide ((y33 : Int) < ((z23.length : Int) : Int)) then
      (jn (fun (y42 : List Int) =>
        spec_AncNew_l1 z15 z23 K35 m y42 (w64 (y33 + 1))) fun K46 =>
      (gi z23 y33).bind fun u51 =>
      (Vm.spec_l8Has z15 u51).bind fun z53 =>
      bif (!z53) then
        ((gi z23 y33).bind fun u62 =>
        (apM y30 [u62]).bind fun q70 =>
        K46 q70)
      else
        (K46 y30))
    else
      (K35 y30 y33)

def spec_AncNew (x0 : Vm.Repo) (x1 : Int) (x2 : Int) : Option ((List Int)) :=
  jn (fun (y6 : Bool) =>
    bif y6 then
      (some ([] : List Int))
    else
      ((Vm.spec_l8All x0 x1).bind fun z15 =>
      (Vm.spec_l8All x0 x2).bind fun z23 =>
      jn (fun (y30 : List Int) (y33 : Int) =>
        some y30) fun K35 =>
      spec_AncNew_l1 z15 z23 K35 (((z23.length : Int) - 0).toNat + 1) ([] : List Int) 0)) fun K8 =>
  (Vm.spec_l7Ok x0).bind fun z80 =>
  bif (!z80) then
    (K8 true)
  else
    ((Vm.spec_l1In x1 0 (w64 ((x0.Commits.length : Int) - 1))).bind fun z88 =>
    bif (!z88) then
      (K8 true)
    else
      ((Vm.spec_l1In x2 0 (w64 ((x0.Commits.length : Int) - 1))).bind fun z96 =>
      K8 (!z96)))

def laws_FnAncNew_l1 (z2 : Vm.Repo × Int × Int) (z15 : (List Int)) (K51 : Bool → Int → Option (Bool)) : Nat → Bool → Int → Option (Bool)
  | 0, _, _ => none
  | m + 1, y48, y49 =>
    bif decide ((y49 : Int) < ((z2.1.Commits.length : Int) : Int)) then
      (jn (fun (y59 : Bool) =>
        bif y59 then
          (some false)
        else
          (laws_FnAncNew_l1 z2 z15 K51 m y48 (w64 (y49 + 1)))) fun K61 =>
      (Vm.laws_smIn z15 y49).bind fun z74 =>
      (Vm.impl_AncIs (Vm.Repo.mk z2.1.Commits z2.1.Heads) y49 z2.2.2).bind fun z83 =>
      bif z83 then
        ((Vm.impl_AncIs (Vm.Repo.mk z2.1.Commits z2.1.Heads) y49 z2.2.1).bind fun z93 =>
        K61 (z74 != (!z93)))
      else
        (K61 (z74 != false)))
    else
      (K51 y48 y49)

def laws_FnAncNew (x0 : List Byte) : Option (Bool) :=
  bif decide ((1048576 : Int) < ((x0.length : Int) : Int)) then
    (some true)
  else
    ((Vm.spec_DrawAncNew x0).bind fun z2 =>
    (Vm.impl_AncNew (Vm.Repo.mk z2.1.Commits z2.1.Heads) z2.2.1 z2.2.2).bind fun z15 =>
    jn (fun (y22 : Bool) =>
      bif y22 then
        ((Vm.spec_AncNew (Vm.Repo.mk z2.1.Commits z2.1.Heads) z2.2.1 z2.2.2).bind fun z31 =>
        (Vm.laws_smInts z15 z31).bind fun z39 =>
        some z39)
      else
        (jn (fun (y48 : Bool) (y49 : Int) =>
          (Vm.impl_AncIs (Vm.Repo.mk z2.1.Commits z2.1.Heads) z2.2.2 z2.2.1).bind fun z102 =>
          some ((((z15.length : Int) : Int) == (0 : Int)) == z102)) fun K51 =>
        laws_FnAncNew_l1 z2 z15 K51 (((z2.1.Commits.length : Int) - 0).toNat + 1) false 0)) fun K24 =>
    (Vm.spec_AncNew (Vm.Repo.mk z2.1.Commits z2.1.Heads) z2.2.1 z2.2.2).bind fun z110 =>
    (Vm.laws_smInts z15 z110).bind fun z118 =>
    bif (!z118) then
      (K24 true)
    else
      ((Vm.impl_RepoOk (Vm.Repo.mk z2.1.Commits z2.1.Heads)).bind fun z129 =>
      bif (!z129) then
        (K24 true)
      else
        (bif decide ((z2.2.1 : Int) < (0 : Int)) then
          (K24 true)
        else
          (bif decide ((z2.2.2 : Int) < (0 : Int)) then
            (K24 true)
          else
            (bif decide (((z2.1.Commits.length : Int) : Int) ≤ (z2.2.1 : Int)) then
              (K24 true)
            else
              (K24 (decide (((z2.1.Commits.length : Int) : Int) ≤ (z2.2.2 : Int)))))))))

end Go.Vm
