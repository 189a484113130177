/- Models of the functions: plain Lean, printed by a program of ours. Conditions: none. -/
import Derived.Test.YtkfeiopifiejgaaGreatDoorXLw
import Derived.Test.YtkfeiopifiejgaaGreatDoorXM0
import Derived.Test.YtkfeiopifiejgaaGreatDoorXM1
import Derived.Test.YtkfeiopifiejgaaGreatDoorXM2
import Derived.Test.YtkfeiopifiejgaaGreatDoorXM3
import Derived.Test.YtkfeiopifiejgaaGreatDoorXM7
namespace Go.Vm
open Go Go.Sx
set_option linter.unusedVariables false
set_option linter.unusedSimpArgs false

def spec_DrawLogWho (x0 : List Byte) : Option (Vm.Repo × Int × Str) :=
  (Vm.spec_l30Open x0).bind fun z4 =>
  (Vm.spec_l30AnyRepo z4).bind fun z10 =>
  (Vm.spec_l30At (Vm.l30Rd.mk z4.b z10.2) (Vm.Repo.mk z10.1.Commits z10.1.Heads)).bind fun z28 =>
  (Vm.spec_l30Rd_of (Vm.l30Rd.mk z4.b z28.2) ([([97, 110, 110] : Str), ([98, 111, 98] : Str), ([110, 111, 98, 111, 100, 121] : Str)] : List Str)).bind fun z51 =>
  some (Vm.Repo.mk z10.1.Commits z10.1.Heads, z28.1, z51.1)

def impl_LogWho_c1 (x0 : Int) (x1 : Vm.Repo) (x2 : Str) : Option (Bool) :=
  (gi x1.Commits x0).bind fun u5 =>
  some (u5.Who == x2)

def slices_Reverse_int_int_l1  (K6 : Int → Int → List Int → Option ((List Int))) : Nat → Int → Int → List Int → Option ((List Int))
  | 0, _, _, _ => none
  | m + 1, y1, y2, y3 =>
    bif decide ((y1 : Int) < (y2 : Int)) then
      ((gi y3 y2).bind fun u13 =>
      (gi y3 y1).bind fun u15 =>
      (gi y3 y1).bind fun u17 =>
      (siM y3 y1 u13).bind fun q20 =>
      (gi y3 y2).bind fun u23 =>
      (siM q20 y2 u15).bind fun q26 =>
      slices_Reverse_int_int_l1 K6 m (w64 (y1 + 1)) (w64 (y2 - 1)) q26)
    else
      (K6 y1 y2 y3)

def slices_Reverse_int_int (x0 : List Int) : Option ((List Int)) :=
  jn (fun (y1 : Int) (y2 : Int) (y3 : List Int) =>
    some y3) fun K6 =>
  slices_Reverse_int_int_l1 K6 (((w64 ((x0.length : Int) - 1)) - 0).toNat + 1) 0 (w64 ((x0.length : Int) - 1)) x0

def impl_Repo_log_at46_l1 (x3 : Vm.Repo) (x4 : Str) (z32 : (List Int)) (K49 : List Int → Int → Option ((List Int))) : Nat → List Int → Int → Option ((List Int))
  | 0, _, _ => none
  | m + 1, y41, y45 =>
    bif decide ((y45 : Int) < ((z32.length : Int) : Int)) then
      (jn (fun (y57 : List Int) =>
        impl_Repo_log_at46_l1 x3 x4 z32 K49 m y57 (w64 (y45 + 1))) fun K64 =>
      (gi z32 y45).bind fun u70 =>
      (Vm.impl_LogWho_c1 u70 (Vm.Repo.mk x3.Commits x3.Heads) x4).bind fun z74 =>
      bif z74 then
        ((apM y41 [u70]).bind fun q93 =>
        K64 q93)
      else
        (K64 y41))
    else
      (K49 y41 y45)

def impl_Repo_log_at46 (x0 : Vm.Repo) (x1 : Int) (x3 : Vm.Repo) (x4 : Str) : Option ((List Int)) :=
  (Vm.impl_Repo_are x0 ([x1] : List Int)).bind fun z13 =>
  bif (!z13) then
    (some ([] : List Int))
  else
    ((Vm.impl_Repo_ancestors x0 x1).bind fun z24 =>
    (Vm.impl_listOf z24).bind fun z32 =>
    jn (fun (y41 : List Int) (y45 : Int) =>
      (Vm.slices_Reverse_int_int y41).bind fun z104 =>
      some z104) fun K49 =>
    impl_Repo_log_at46_l1 x3 x4 z32 K49 (((z32.length : Int) - 0).toNat + 1) ([] : List Int) 0)

def impl_LogWho (x0 : Vm.Repo) (x1 : Int) (x2 : Str) : Option ((List Int)) :=
  (Vm.impl_Repo_log_at46 x0 x1 x0 x2).bind fun z9 =>
  some z9

def spec_LogWho_l1 (x0 : Vm.Repo) (x2 : Str) (z15 : (List Int)) (K26 : List Int → Int → Option ((List Int))) : Nat → List Int → Int → Option ((List Int))
  | 0, _, _ => none
  | m + 1, y21, y24 =>
    bif decide ((0 : Int) ≤ (y24 : Int)) then
      (jn (fun (y32 : List Int) =>
        spec_LogWho_l1 x0 x2 z15 K26 m y32 (w64 (y24 - 1))) fun K36 =>
      (gi z15 y24).bind fun u45 =>
      (gi x0.Commits u45).bind fun u47 =>
      bif (u47.Who == x2) then
        ((gi z15 y24).bind fun u51 =>
        (apM y21 [u51]).bind fun q58 =>
        K36 q58)
      else
        (K36 y21))
    else
      (K26 y21 y24)

def spec_LogWho (x0 : Vm.Repo) (x1 : Int) (x2 : Str) : Option ((List Int)) :=
  jn (fun (y6 : Bool) =>
    bif y6 then
      (some ([] : List Int))
    else
      ((Vm.spec_l8All x0 x1).bind fun z15 =>
      jn (fun (y21 : List Int) (y24 : Int) =>
        some y21) fun K26 =>
      spec_LogWho_l1 x0 x2 z15 K26 (((w64 ((z15.length : Int) - 1)) + 1 - 0).toNat + 1) ([] : List Int) (w64 ((z15.length : Int) - 1)))) fun K8 =>
  (Vm.spec_l7Ok x0).bind fun z67 =>
  bif (!z67) then
    (K8 true)
  else
    ((Vm.spec_l1In x1 0 (w64 ((x0.Commits.length : Int) - 1))).bind fun z75 =>
    K8 (!z75))

def laws_FnLogWho_l1 (z2 : Vm.Repo × Int × Str) (z15 : (List Int)) (z49 : (List Int)) (K61 : Bool → Int → Int → Option (Bool)) : Nat → Bool → Int → Int → Option (Bool)
  | 0, _, _, _ => none
  | m + 1, y57, y58, y59 =>
    bif decide ((0 : Int) ≤ (y59 : Int)) then
      (jn (fun (y70 : Bool) (y71 : Int) =>
        laws_FnLogWho_l1 z2 z15 z49 K61 m y70 y71 (w64 (y59 - 1))) fun K73 =>
      (gi z49 y59).bind fun u87 =>
      (gi z2.1.Commits u87).bind fun u89 =>
      bif (u89.Who == z2.2.2) then
        (jn (fun (y92 : Bool) =>
          bif y92 then
            (some false)
          else
            (K73 y57 (w64 (y58 + 1)))) fun K94 =>
        bif decide (((z15.length : Int) : Int) ≤ (y58 : Int)) then
          (K94 true)
        else
          ((gi z15 y58).bind fun u110 =>
          (gi z49 y59).bind fun u112 =>
          K94 ((u110 : Int) != (u112 : Int))))
      else
        (K73 y57 y58))
    else
      (K61 y57 y58 y59)

def laws_FnLogWho (x0 : List Byte) : Option (Bool) :=
  bif decide ((1048576 : Int) < ((x0.length : Int) : Int)) then
    (some true)
  else
    ((Vm.spec_DrawLogWho x0).bind fun z2 =>
    (Vm.impl_LogWho (Vm.Repo.mk z2.1.Commits z2.1.Heads) z2.2.1 z2.2.2).bind fun z15 =>
    jn (fun (y22 : Bool) =>
      bif y22 then
        ((Vm.spec_LogWho (Vm.Repo.mk z2.1.Commits z2.1.Heads) z2.2.1 z2.2.2).bind fun z31 =>
        (Vm.laws_smInts z15 z31).bind fun z39 =>
        some z39)
      else
        ((Vm.impl_AncAll (Vm.Repo.mk z2.1.Commits z2.1.Heads) z2.2.1).bind fun z49 =>
        jn (fun (y57 : Bool) (y58 : Int) (y59 : Int) =>
          some ((y58 : Int) == ((z15.length : Int) : Int))) fun K61 =>
        laws_FnLogWho_l1 z2 z15 z49 K61 (((w64 ((z49.length : Int) - 1)) + 1 - 0).toNat + 1) false 0 (w64 ((z49.length : Int) - 1)))) fun K24 =>
    (Vm.spec_LogWho (Vm.Repo.mk z2.1.Commits z2.1.Heads) z2.2.1 z2.2.2).bind fun z114 =>
    (Vm.laws_smInts z15 z114).bind fun z122 =>
    bif (!z122) then
      (K24 true)
    else
      ((Vm.impl_RepoOk (Vm.Repo.mk z2.1.Commits z2.1.Heads)).bind fun z133 =>
      bif (!z133) then
        (K24 true)
      else
        (bif decide ((z2.2.1 : Int) < (0 : Int)) then
          (K24 true)
        else
          (K24 (decide (((z2.1.Commits.length : Int) : Int) ≤ (z2.2.1 : Int)))))))

end Go.Vm
