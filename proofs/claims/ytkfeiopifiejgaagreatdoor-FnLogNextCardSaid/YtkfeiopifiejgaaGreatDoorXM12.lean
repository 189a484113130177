/- Models of the functions: plain Lean, printed by a program of ours. Conditions: none. -/
import Derived.Test.YtkfeiopifiejgaaGreatDoorXLw
import Derived.Test.YtkfeiopifiejgaaGreatDoorXM0
import Derived.Test.YtkfeiopifiejgaaGreatDoorXM1
import Derived.Test.YtkfeiopifiejgaaGreatDoorXM3
import Derived.Test.YtkfeiopifiejgaaGreatDoorXM4
import Derived.Test.YtkfeiopifiejgaaGreatDoorXM8
namespace Go.Vm
open Go Go.Sx
set_option linter.unusedVariables false
set_option linter.unusedSimpArgs false

def spec_DrawAncBases (x0 : List Byte) : Option (Vm.Repo × Int × Int) :=
  (Vm.spec_DrawAncIs x0).bind fun z4 =>
  some (Vm.Repo.mk z4.1.Commits z4.1.Heads, z4.2.1, z4.2.2)

def slices_Clone_bool_bool (x0 : List Bool) : Option ((List Bool)) :=
  if x0.length ≤ lim then some x0 else none

def impl_Repo_bases_l3 (u96 : Int) (z110 : (List Int)) (K126 : Int → List Bool → Option ((List Int))) : Nat → Int → List Bool → Option ((List Int))
  | 0, _, _ => none
  | m + 1, y122, y123 =>
    bif decide ((y122 : Int) < ((z110.length : Int) : Int)) then
      (jn (fun (y138 : List Bool) =>
        impl_Repo_bases_l3 u96 z110 K126 m (w64 (y122 + 1)) y138) fun K141 =>
      (gi z110 y122).bind fun u150 =>
      bif ((u150 : Int) != (u96 : Int)) then
        ((gi y123 u150).bind fun u153 =>
        (siM y123 u150 false).bind fun q156 =>
        K141 q156)
      else
        (K141 y123))
    else
      (K126 y122 y123)

def impl_Repo_bases_l2 (x0 : Vm.Repo) (z72 : (List Int)) (K87 : Int → List Bool → Option ((List Int))) : Nat → Int → List Bool → Option ((List Int))
  | 0, _, _ => none
  | m + 1, y83, y84 =>
    bif decide ((y83 : Int) < ((z72.length : Int) : Int)) then
      ((gi z72 y83).bind fun u96 =>
      (Vm.impl_Repo_ancestors x0 u96).bind fun z100 =>
      (Vm.impl_listOf z100).bind fun z110 =>
      jn (fun (y122 : Int) (y123 : List Bool) =>
        impl_Repo_bases_l2 x0 z72 K87 m (w64 (y83 + 1)) y123) fun K126 =>
      impl_Repo_bases_l3 u96 z110 K126 (((z110.length : Int) - 0).toNat + 1) 0 y84)
    else
      (K87 y83 y84)

def impl_Repo_bases_l1 (z8 : (List Bool)) (z15 : (List Bool)) (q22 : List Bool) (K34 : Int → List Bool → Option ((List Int))) : Nat → Int → List Bool → Option ((List Int))
  | 0, _, _ => none
  | m + 1, y30, y31 =>
    bif decide ((y30 : Int) < ((q22.length : Int) : Int)) then
      ((gi z8 y30).bind fun u41 =>
      bif u41 then
        ((gi z15 y30).bind fun u44 =>
        (gi y31 y30).bind fun u46 =>
        (siM y31 y30 u44).bind fun q49 =>
        impl_Repo_bases_l1 z8 z15 q22 K34 m (w64 (y30 + 1)) q49)
      else
        ((gi y31 y30).bind fun u55 =>
        (siM y31 y30 false).bind fun q58 =>
        impl_Repo_bases_l1 z8 z15 q22 K34 m (w64 (y30 + 1)) q58))
    else
      (K34 y30 y31)

def impl_Repo_bases (x0 : Vm.Repo) (x1 : Int) (x2 : Int) : Option ((List Int)) :=
  (Vm.impl_Repo_ancestors x0 x1).bind fun z8 =>
  (Vm.impl_Repo_ancestors x0 x2).bind fun z15 =>
  (mkM (x0.Commits.length : Int) (false : Bool)).bind fun q22 =>
  jn (fun (y30 : Int) (y31 : List Bool) =>
    (Vm.slices_Clone_bool_bool y31).bind fun z64 =>
    (Vm.impl_listOf y31).bind fun z72 =>
    jn (fun (y83 : Int) (y84 : List Bool) =>
      (Vm.impl_listOf y84).bind fun z166 =>
      some z166) fun K87 =>
    impl_Repo_bases_l2 x0 z72 K87 (((z72.length : Int) - 0).toNat + 1) 0 z64) fun K34 =>
  impl_Repo_bases_l1 z8 z15 q22 K34 (((q22.length : Int) - 0).toNat + 1) 0 q22

def impl_AncBases (x0 : Vm.Repo) (x1 : Int) (x2 : Int) : Option ((List Int)) :=
  (Vm.impl_Repo_are x0 ([x1, x2] : List Int)).bind fun z9 =>
  bif (!z9) then
    (some ([] : List Int))
  else
    ((Vm.impl_Repo_bases x0 x1 x2).bind fun z18 =>
    some z18)

def spec_AncBases (x0 : Vm.Repo) (x1 : Int) (x2 : Int) : Option ((List Int)) :=
  jn (fun (y3 : Bool) =>
    bif y3 then
      (some ([] : List Int))
    else
      ((Vm.spec_l8Bases x0 x1 x2).bind fun z11 =>
      some z11)) fun K5 =>
  (Vm.spec_l7Ok x0).bind fun z18 =>
  bif (!z18) then
    (K5 true)
  else
    ((Vm.spec_l1In x1 0 (w64 ((x0.Commits.length : Int) - 1))).bind fun z25 =>
    bif (!z25) then
      (K5 true)
    else
      ((Vm.spec_l1In x2 0 (w64 ((x0.Commits.length : Int) - 1))).bind fun z32 =>
      K5 (!z32)))

def laws_FnAncBases_l2 (z2 : Vm.Repo × Int × Int) (z15 : (List Int)) (y49 : Int) (K63 : Bool → Int → Option (Bool)) : Nat → Bool → Int → Option (Bool)
  | 0, _, _ => none
  | m + 1, y60, y61 =>
    bif decide ((y61 : Int) < ((z15.length : Int) : Int)) then
      (jn (fun (y71 : Bool) =>
        bif y71 then
          (some false)
        else
          (laws_FnAncBases_l2 z2 z15 y49 K63 m y60 (w64 (y61 + 1)))) fun K73 =>
      bif ((y61 : Int) != (y49 : Int)) then
        ((gi z15 y49).bind fun u87 =>
        (gi z15 y61).bind fun u89 =>
        (Vm.impl_AncIs (Vm.Repo.mk z2.1.Commits z2.1.Heads) u87 u89).bind fun z92 =>
        K73 z92)
      else
        (K73 false))
    else
      (K63 y60 y61)

def laws_FnAncBases_l4 (z2 : Vm.Repo × Int × Int) (z15 : (List Int)) (y139 : Int) (K154 : Bool → Int → Option (Bool)) : Nat → Bool → Int → Option (Bool)
  | 0, _, _ => none
  | m + 1, y151, y152 =>
    bif decide ((y152 : Int) < ((z15.length : Int) : Int)) then
      (bif y151 then
        (laws_FnAncBases_l4 z2 z15 y139 K154 m true (w64 (y152 + 1)))
      else
        ((gi z15 y152).bind fun u169 =>
        (Vm.impl_AncIs (Vm.Repo.mk z2.1.Commits z2.1.Heads) y139 u169).bind fun z172 =>
        laws_FnAncBases_l4 z2 z15 y139 K154 m z172 (w64 (y152 + 1))))
    else
      (K154 y151 y152)

def laws_FnAncBases_l3 (z2 : Vm.Repo × Int × Int) (z15 : (List Int)) (K143 : Bool → Int → Option (Bool)) : Nat → Bool → Int → Option (Bool)
  | 0, _, _ => none
  | m + 1, y138, y139 =>
    bif decide ((y139 : Int) < ((z2.1.Commits.length : Int) : Int)) then
      (jn (fun (y151 : Bool) (y152 : Int) =>
        jn (fun (y180 : Bool) =>
          bif y180 then
            (some false)
          else
            (laws_FnAncBases_l3 z2 z15 K143 m y138 (w64 (y139 + 1)))) fun K182 =>
        (Vm.impl_AncIs (Vm.Repo.mk z2.1.Commits z2.1.Heads) y139 z2.2.1).bind fun z190 =>
        bif z190 then
          ((Vm.impl_AncIs (Vm.Repo.mk z2.1.Commits z2.1.Heads) y139 z2.2.2).bind fun z200 =>
          K182 (y151 != z200))
        else
          (K182 (y151 != false))) fun K154 =>
      laws_FnAncBases_l4 z2 z15 y139 K154 (((z15.length : Int) - 0).toNat + 1) false 0)
    else
      (K143 y138 y139)

def laws_FnAncBases_l1 (z2 : Vm.Repo × Int × Int) (z15 : (List Int)) (K52 : Bool → Int → Option (Bool)) : Nat → Bool → Int → Option (Bool)
  | 0, _, _ => none
  | m + 1, y48, y49 =>
    bif decide ((y49 : Int) < ((z15.length : Int) : Int)) then
      (jn (fun (y60 : Bool) (y61 : Int) =>
        jn (fun (y100 : Bool) =>
          bif y100 then
            (some false)
          else
            (laws_FnAncBases_l1 z2 z15 K52 m y60 (w64 (y49 + 1)))) fun K102 =>
        (gi z15 y49).bind fun u115 =>
        (Vm.impl_AncIs (Vm.Repo.mk z2.1.Commits z2.1.Heads) u115 z2.2.1).bind fun z118 =>
        bif (!z118) then
          (K102 true)
        else
          ((gi z15 y49).bind fun u127 =>
          (Vm.impl_AncIs (Vm.Repo.mk z2.1.Commits z2.1.Heads) u127 z2.2.2).bind fun z130 =>
          K102 (!z130))) fun K63 =>
      laws_FnAncBases_l2 z2 z15 y49 K63 (((z15.length : Int) - 0).toNat + 1) y48 0)
    else
      (K52 y48 y49)

def laws_FnAncBases (x0 : List Byte) : Option (Bool) :=
  bif decide ((1048576 : Int) < ((x0.length : Int) : Int)) then
    (some true)
  else
    ((Vm.spec_DrawAncBases x0).bind fun z2 =>
    (Vm.impl_AncBases (Vm.Repo.mk z2.1.Commits z2.1.Heads) z2.2.1 z2.2.2).bind fun z15 =>
    jn (fun (y22 : Bool) =>
      bif y22 then
        ((Vm.spec_AncBases (Vm.Repo.mk z2.1.Commits z2.1.Heads) z2.2.1 z2.2.2).bind fun z31 =>
        (Vm.laws_smInts z15 z31).bind fun z39 =>
        some z39)
      else
        (jn (fun (y48 : Bool) (y49 : Int) =>
          jn (fun (y138 : Bool) (y139 : Int) =>
            jn (fun (y208 : Bool) =>
              some y208) fun K210 =>
            (Vm.impl_AncBases (Vm.Repo.mk z2.1.Commits z2.1.Heads) z2.2.2 z2.2.1).bind fun z217 =>
            (Vm.laws_smInts z217 z15).bind fun z225 =>
            bif z225 then
              ((Vm.impl_AncIs (Vm.Repo.mk z2.1.Commits z2.1.Heads) z2.2.1 z2.2.2).bind fun z236 =>
              bif (!z236) then
                (K210 true)
              else
                ((Vm.laws_smInts z15 ([z2.2.1] : List Int)).bind fun z253 =>
                K210 z253))
            else
              (K210 false)) fun K143 =>
          laws_FnAncBases_l3 z2 z15 K143 (((z2.1.Commits.length : Int) - 0).toNat + 1) y48 0) fun K52 =>
        laws_FnAncBases_l1 z2 z15 K52 (((z15.length : Int) - 0).toNat + 1) false 0)) fun K24 =>
    (Vm.spec_AncBases (Vm.Repo.mk z2.1.Commits z2.1.Heads) z2.2.1 z2.2.2).bind fun z263 =>
    (Vm.laws_smInts z15 z263).bind fun z271 =>
    bif (!z271) then
      (K24 true)
    else
      ((Vm.impl_RepoOk (Vm.Repo.mk z2.1.Commits z2.1.Heads)).bind fun z282 =>
      bif (!z282) then
        (K24 true)
      else
        (bif decide ((z2.2.1 : Int) < (0 : Int)) then
          (K24 true)
        else
          (bif decide ((z2.2.2 : Int) < (0 : Int)) then
            (K24 true)
          else
            (bif decide (((z2.1.Commits.length : Int) : Int) ≤ (z2.2.1 : Int)) then
              (K24 true)
            else
              (K24 (decide (((z2.1.Commits.length : Int) : Int) ≤ (z2.2.2 : Int)))))))))

end Go.Vm
