/- Models of the functions: plain Lean, printed by a program of ours. Conditions: none. -/
import Derived.Test.YtkfeiopifiejgaaGreatDoorXLw
import Derived.Test.YtkfeiopifiejgaaGreatDoorXM0
import Derived.Test.YtkfeiopifiejgaaGreatDoorXM1
import Derived.Test.YtkfeiopifiejgaaGreatDoorXM2
import Derived.Test.YtkfeiopifiejgaaGreatDoorXM4
namespace Go.Vm
open Go Go.Sx
set_option linter.unusedVariables false
set_option linter.unusedSimpArgs false

def spec_DrawRepoTree (x0 : List Byte) : Option (Vm.Repo × Int) :=
  (Vm.spec_l30Open x0).bind fun z4 =>
  (Vm.spec_l30AnyRepo z4).bind fun z10 =>
  (Vm.spec_l30At (Vm.l30Rd.mk z4.b z10.2) (Vm.Repo.mk z10.1.Commits z10.1.Heads)).bind fun z35 =>
  some (Vm.Repo.mk z10.1.Commits z10.1.Heads, z35.1)

def spec_DrawAncFar (x0 : List Byte) : Option (Vm.Repo × Int) :=
  (Vm.spec_DrawRepoTree x0).bind fun z4 =>
  some (Vm.Repo.mk z4.1.Commits z4.1.Heads, z4.2)

def impl_AncFar_l3 (y50 : Int) (K65 : List Int → Option ((List Int))) (u72 : Vm.Commit)  : Nat → Int → List Int → Option ((List Int))
  | 0, _, _ => none
  | m + 1, y79, y80 =>
    bif decide ((y79 : Int) < ((u72.Parents.length : Int) : Int)) then
      (jn (fun (y90 : List Int) =>
        impl_AncFar_l3 y50 K65 u72 m (w64 (y79 + 1)) y90) fun K93 =>
      (gi u72.Parents y79).bind fun u97 =>
      jn (fun (y100 : Bool) =>
        bif y100 then
          ((gi y80 y50).bind fun u108 =>
          (gi y80 u97).bind fun u110 =>
          (siM y80 u97 (w64 (u108 + 1))).bind fun q113 =>
          K93 q113)
        else
          (K93 y80)) fun K102 =>
      (gi y80 u97).bind fun u123 =>
      bif decide ((u123 : Int) < (0 : Int)) then
        (K102 true)
      else
        ((gi y80 y50).bind fun u126 =>
        (gi y80 u97).bind fun u128 =>
        K102 (decide ((w64 (u126 + 1) : Int) < (u128 : Int)))))
    else
      (K65 y80)

def impl_AncFar_l2 (x0 : Vm.Repo) (K55 : Int → List Int → Option ((List Int))) : Nat → Int → List Int → Option ((List Int))
  | 0, _, _ => none
  | m + 1, y50, y52 =>
    bif decide ((0 : Int) ≤ (y50 : Int)) then
      (jn (fun (y62 : List Int) =>
        impl_AncFar_l2 x0 K55 m (w64 (y50 - 1)) y62) fun K65 =>
      (gi y52 y50).bind fun u69 =>
      bif decide ((u69 : Int) < (0 : Int)) then
        (K65 y52)
      else
        ((gi x0.Commits y50).bind fun u72 =>
        impl_AncFar_l3 y50 K65 u72 (((u72.Parents.length : Int) - 0).toNat + 1) 0 y52))
    else
      (K55 y50 y52)

def impl_AncFar_l1 (q17 : List Int) (K28 : Int → List Int → Option ((List Int))) : Nat → Int → List Int → Option ((List Int))
  | 0, _, _ => none
  | m + 1, y24, y25 =>
    bif decide ((y24 : Int) < ((q17.length : Int) : Int)) then
      ((gi y25 y24).bind fun u34 =>
      (siM y25 y24 (-1)).bind fun q37 =>
      impl_AncFar_l1 q17 K28 m (w64 (y24 + 1)) q37)
    else
      (K28 y24 y25)

def impl_AncFar (x0 : Vm.Repo) (x1 : Int) : Option ((List Int)) :=
  (Vm.impl_Repo_are x0 ([x1] : List Int)).bind fun z9 =>
  bif (!z9) then
    (some ([] : List Int))
  else
    ((mkM (x0.Commits.length : Int) (0 : Int)).bind fun q17 =>
    jn (fun (y24 : Int) (y25 : List Int) =>
      (gi y25 x1).bind fun u42 =>
      (siM y25 x1 0).bind fun q45 =>
      jn (fun (y50 : Int) (y52 : List Int) =>
        some y52) fun K55 =>
      impl_AncFar_l2 x0 K55 ((x1 + 1 - 0).toNat + 1) x1 q45) fun K28 =>
    impl_AncFar_l1 q17 K28 (((q17.length : Int) - 0).toNat + 1) 0 q17)

def spec_AncFar_l3 (x0 : Vm.Repo) (y38 : Int) (K54 : Int → List Int → Option ((List Int))) : Nat → Int → List Int → Option ((List Int))
  | 0, _, _ => none
  | m + 1, y49, y51 =>
    jn (fun (y58 : Bool) =>
      bif y58 then
        (jn (fun (y66 : List Int) =>
          spec_AncFar_l3 x0 y38 K54 m (w64 (y49 + 1)) y66) fun K69 =>
        (gi x0.Commits y38).bind fun u72 =>
        (gi u72.Parents y49).bind fun u78 =>
        jn (fun (y80 : Bool) =>
          bif y80 then
            ((gi y51 y38).bind fun u87 =>
            (gi y51 u78).bind fun u89 =>
            (siM y51 u78 (w64 (u87 + 1))).bind fun q92 =>
            K69 q92)
          else
            (K69 y51)) fun K82 =>
        (gi y51 u78).bind fun u100 =>
        bif decide ((u100 : Int) < (0 : Int)) then
          (K82 true)
        else
          ((gi y51 y38).bind fun u103 =>
          (gi y51 u78).bind fun u105 =>
          K82 (decide ((w64 (u103 + 1) : Int) < (u105 : Int)))))
      else
        (K54 y49 y51)) fun K60 =>
    (gi x0.Commits y38).bind fun u107 =>
    bif decide ((y49 : Int) < ((u107.Parents.length : Int) : Int)) then
      ((gi y51 y38).bind fun u114 =>
      K60 (decide ((0 : Int) ≤ (u114 : Int))))
    else
      (K60 false)

def spec_AncFar_l2 (x0 : Vm.Repo) (K44 : Int → List Int → Option ((List Int))) : Nat → Int → List Int → Option ((List Int))
  | 0, _, _ => none
  | m + 1, y38, y41 =>
    bif decide ((0 : Int) ≤ (y38 : Int)) then
      (jn (fun (y49 : Int) (y51 : List Int) =>
        spec_AncFar_l2 x0 K44 m (w64 (y38 - 1)) y51) fun K54 =>
      spec_AncFar_l3 x0 y38 K54 (4) 0 y41)
    else
      (K44 y38 y41)

def spec_AncFar_l1  (K19 : Int → List Int → Option ((List Int))) : Nat → Int → List Int → Option ((List Int))
  | 0, _, _ => none
  | m + 1, y15, y16 =>
    bif decide ((y15 : Int) < ((y16.length : Int) : Int)) then
      ((gi y16 y15).bind fun u24 =>
      (siM y16 y15 (-1)).bind fun q27 =>
      spec_AncFar_l1 K19 m (w64 (y15 + 1)) q27)
    else
      (K19 y15 y16)

def spec_AncFar (x0 : Vm.Repo) (x1 : Int) : Option ((List Int)) :=
  jn (fun (y3 : Bool) =>
    bif y3 then
      (some ([] : List Int))
    else
      ((mkM (x0.Commits.length : Int) (0 : Int)).bind fun q10 =>
      jn (fun (y15 : Int) (y16 : List Int) =>
        (gi y16 x1).bind fun u31 =>
        (siM y16 x1 0).bind fun q34 =>
        jn (fun (y38 : Int) (y41 : List Int) =>
          some y41) fun K44 =>
        spec_AncFar_l2 x0 K44 ((x1 + 1 - 0).toNat + 1) x1 q34) fun K19 =>
      spec_AncFar_l1 K19 (((q10.length : Int) - 0).toNat + 1) 0 q10)) fun K5 =>
  (Vm.spec_l7Ok x0).bind fun z118 =>
  bif (!z118) then
    (K5 true)
  else
    ((Vm.spec_l1In x1 0 (w64 ((x0.Commits.length : Int) - 1))).bind fun z125 =>
    K5 (!z125))

def laws_FnAncFar_l2 (z2 : Vm.Repo × Int) (z15 : (List Int)) (y49 : Int) (K72 : Bool → Int → Option (Bool)) : Nat → Bool → Int → Option (Bool)
  | 0, _, _ => none
  | m + 1, y69, y70 =>
    jn (fun (y79 : Bool) =>
      bif y79 then
        ((gi z2.1.Commits y49).bind fun u94 =>
        (gi u94.Parents y70).bind fun u99 =>
        (gi z15 u99).bind fun u101 =>
        (gi z15 y49).bind fun u103 =>
        bif decide ((w64 (u103 + 1) : Int) < (u101 : Int)) then
          (some false)
        else
          (laws_FnAncFar_l2 z2 z15 y49 K72 m y69 (w64 (y70 + 1))))
      else
        (K72 y69 y70)) fun K81 =>
    (gi z2.1.Commits y49).bind fun u106 =>
    bif decide ((y70 : Int) < ((u106.Parents.length : Int) : Int)) then
      ((gi z15 y49).bind fun u112 =>
      K81 (decide ((0 : Int) ≤ (u112 : Int))))
    else
      (K81 false)

def laws_FnAncFar_l1 (z2 : Vm.Repo × Int) (z15 : (List Int)) (K52 : Bool → Int → Option (Bool)) : Nat → Bool → Int → Option (Bool)
  | 0, _, _ => none
  | m + 1, y48, y49 =>
    bif decide ((y49 : Int) < ((z15.length : Int) : Int)) then
      (jn (fun (y60 : Bool) =>
        bif y60 then
          (some false)
        else
          (jn (fun (y69 : Bool) (y70 : Int) =>
            laws_FnAncFar_l1 z2 z15 K52 m y69 (w64 (y49 + 1))) fun K72 =>
          laws_FnAncFar_l2 z2 z15 y49 K72 (4) y48 0)) fun K62 =>
      (gi z15 y49).bind fun u120 =>
      (Vm.impl_AncIs (Vm.Repo.mk z2.1.Commits z2.1.Heads) y49 z2.2).bind fun z123 =>
      bif ((decide ((0 : Int) ≤ (u120 : Int))) != z123) then
        (K62 true)
      else
        ((gi z15 y49).bind fun u132 =>
        K62 (((u132 : Int) == (0 : Int)) != ((y49 : Int) == (z2.2 : Int)))))
    else
      (K52 y48 y49)

def laws_FnAncFar (x0 : List Byte) : Option (Bool) :=
  bif decide ((1048576 : Int) < ((x0.length : Int) : Int)) then
    (some true)
  else
    ((Vm.spec_DrawAncFar x0).bind fun z2 =>
    (Vm.impl_AncFar (Vm.Repo.mk z2.1.Commits z2.1.Heads) z2.2).bind fun z15 =>
    jn (fun (y22 : Bool) =>
      bif y22 then
        ((Vm.spec_AncFar (Vm.Repo.mk z2.1.Commits z2.1.Heads) z2.2).bind fun z31 =>
        (Vm.laws_smInts z15 z31).bind fun z39 =>
        some z39)
      else
        (jn (fun (y48 : Bool) (y49 : Int) =>
          some (((z15.length : Int) : Int) == ((z2.1.Commits.length : Int) : Int))) fun K52 =>
        laws_FnAncFar_l1 z2 z15 K52 (((z15.length : Int) - 0).toNat + 1) false 0)) fun K24 =>
    (Vm.spec_AncFar (Vm.Repo.mk z2.1.Commits z2.1.Heads) z2.2).bind fun z134 =>
    (Vm.laws_smInts z15 z134).bind fun z142 =>
    bif (!z142) then
      (K24 true)
    else
      (K24 (((z15.length : Int) : Int) == (0 : Int))))

end Go.Vm
