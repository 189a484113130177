/- Models of the functions: plain Lean, printed by a program of ours. Conditions: none. -/
import Derived.Test.YtidkloialdageaaGreatDoorXLw
import Derived.Test.YtidkloialdageaaGreatDoorXM0
import Derived.Test.YtidkloialdageaaGreatDoorXM4
import Derived.Test.YtidkloialdageaaGreatDoorXM5
namespace Go.Vm
open Go Go.Sx
set_option linter.unusedVariables false
set_option linter.unusedSimpArgs false

def spec_DrawLogPath (x0 : List Byte) : Option (Vm.Repo × Int × Str) :=
  (Vm.spec_l30Open x0).bind fun z4 =>
  (Vm.spec_l30AnyRepo z4).bind fun z10 =>
  (Vm.spec_l30At (Vm.l30Rd.mk z4.b z10.2) (Vm.Repo.mk z10.1.Commits z10.1.Heads)).bind fun z28 =>
  (Vm.spec_l30Rd_of (Vm.l30Rd.mk z4.b z28.2) ([([97] : Str), ([98] : Str), ([100] : Str), ([100, 47, 101] : Str), ([103] : Str), ([113] : Str)] : List Str)).bind fun z51 =>
  some (Vm.Repo.mk z10.1.Commits z10.1.Heads, z28.1, z51.1)

def impl_isAt (x0 : Vm.File) (x1 : Str) : Option (Bool) :=
  jn (fun (y3 : Bool) =>
    some y3) fun K5 =>
  bif (x0.Path == x1) then
    (K5 true)
  else
    ((saM x1 ([47] : Str)).bind fun q9 =>
    (Vm.strings_HasPrefix x0.Path q9).bind fun z11 =>
    K5 z11)

def impl_under_l1 (x0 : List Vm.File) (x1 : Str) (K7 : List Vm.File → Int → Option ((List Vm.File))) : Nat → List Vm.File → Int → Option ((List Vm.File))
  | 0, _, _ => none
  | m + 1, y1, y5 =>
    bif decide ((y5 : Int) < ((x0.length : Int) : Int)) then
      (jn (fun (y11 : List Vm.File) =>
        impl_under_l1 x0 x1 K7 m y11 (w64 (y5 + 1))) fun K16 =>
      (gi x0 y5).bind fun u18 =>
      (Vm.impl_isAt u18 x1).bind fun z33 =>
      bif z33 then
        ((apM y1 [u18]).bind fun q45 =>
        K16 q45)
      else
        (K16 y1))
    else
      (K7 y1 y5)

def impl_under (x0 : List Vm.File) (x1 : Str) : Option ((List Vm.File)) :=
  jn (fun (y1 : List Vm.File) (y5 : Int) =>
    some y1) fun K7 =>
  impl_under_l1 x0 x1 K7 (((x0.length : Int) - 0).toNat + 1) ([] : List File) 0

def slices_Equal_string_string_l1 (x0 : List Str) (x1 : List Str) (K6 : Bool → Int → Option (Bool)) : Nat → Bool → Int → Option (Bool)
  | 0, _, _ => none
  | m + 1, y2, y4 =>
    bif decide ((y4 : Int) < ((x0.length : Int) : Int)) then
      ((gi x0 y4).bind fun u12 =>
      (gi x1 y4).bind fun u15 =>
      bif (u12 != u15) then
        (some false)
      else
        (slices_Equal_string_string_l1 x0 x1 K6 m y2 (w64 (y4 + 1))))
    else
      (K6 y2 y4)

def slices_Equal_string_string (x0 : List Str) (x1 : List Str) : Option (Bool) :=
  bif (((x0.length : Int) : Int) != ((x1.length : Int) : Int)) then
    (some false)
  else
    (jn (fun (y2 : Bool) (y4 : Int) =>
      some true) fun K6 =>
    slices_Equal_string_string_l1 x0 x1 K6 (((x0.length : Int) - 0).toNat + 1) false 0)

def impl_sameTree_c1 (x0 : Vm.File) (x1 : Vm.File) : Option (Bool) :=
  jn (fun (y6 : Bool) =>
    some y6) fun K8 =>
  bif (x0.Path == x1.Path) then
    ((Vm.slices_Equal_string_string x0.Text x1.Text).bind fun z15 =>
    K8 z15)
  else
    (K8 false)

def slices_EqualFunc_impl_File_impl_File_impl_File_impl_File_at_impl_sameTree_c1_l1 (x0 : List Vm.File) (x1 : List Vm.File) (K8 : Bool → Int → Option (Bool)) : Nat → Bool → Int → Option (Bool)
  | 0, _, _ => none
  | m + 1, y2, y6 =>
    bif decide ((y6 : Int) < ((x0.length : Int) : Int)) then
      ((gi x0 y6).bind fun u12 =>
      (gi x1 y6).bind fun u24 =>
      (Vm.impl_sameTree_c1 u12 u24).bind fun z40 =>
      bif (!z40) then
        (some false)
      else
        (slices_EqualFunc_impl_File_impl_File_impl_File_impl_File_at_impl_sameTree_c1_l1 x0 x1 K8 m y2 (w64 (y6 + 1))))
    else
      (K8 y2 y6)

def slices_EqualFunc_impl_File_impl_File_impl_File_impl_File_at_impl_sameTree_c1 (x0 : List Vm.File) (x1 : List Vm.File) : Option (Bool) :=
  bif (((x0.length : Int) : Int) != ((x1.length : Int) : Int)) then
    (some false)
  else
    (jn (fun (y2 : Bool) (y6 : Int) =>
      some true) fun K8 =>
    slices_EqualFunc_impl_File_impl_File_impl_File_impl_File_at_impl_sameTree_c1_l1 x0 x1 K8 (((x0.length : Int) - 0).toNat + 1) false 0)

def impl_sameTree (x0 : List Vm.File) (x1 : List Vm.File) : Option (Bool) :=
  (Vm.slices_EqualFunc_impl_File_impl_File_impl_File_impl_File_at_impl_sameTree_c1 x0 x1).bind fun z1 =>
  some z1

def impl_Repo_changes_l1 (x0 : Vm.Repo) (x2 : Str) (z11 : (List Vm.File)) (u25 : Vm.Commit) (K34 : Bool → Int → Option (Bool)) : Nat → Bool → Int → Option (Bool)
  | 0, _, _ => none
  | m + 1, y30, y32 =>
    bif decide ((y32 : Int) < ((u25.Parents.length : Int) : Int)) then
      ((gi u25.Parents y32).bind fun u40 =>
      (Vm.impl_Repo_tree x0 u40).bind fun z45 =>
      (Vm.impl_under z45 x2).bind fun z52 =>
      (Vm.impl_sameTree z11 z52).bind fun z61 =>
      bif z61 then
        (some false)
      else
        (impl_Repo_changes_l1 x0 x2 z11 u25 K34 m y30 (w64 (y32 + 1))))
    else
      (K34 y30 y32)

def impl_Repo_changes (x0 : Vm.Repo) (x1 : Int) (x2 : Str) : Option (Bool) :=
  (Vm.impl_Repo_tree x0 x1).bind fun z5 =>
  (Vm.impl_under z5 x2).bind fun z11 =>
  (gi x0.Commits x1).bind fun u17 =>
  bif (((u17.Parents.length : Int) : Int) == (0 : Int)) then
    (some (decide ((0 : Int) < ((z11.length : Int) : Int))))
  else
    ((gi x0.Commits x1).bind fun u25 =>
    jn (fun (y30 : Bool) (y32 : Int) =>
      some true) fun K34 =>
    impl_Repo_changes_l1 x0 x2 z11 u25 K34 (((u25.Parents.length : Int) - 0).toNat + 1) false 0)

def impl_LogPath_c1 (x0 : Int) (x1 : Vm.Repo) (x2 : Str) : Option (Bool) :=
  (Vm.impl_Repo_changes x1 x0 x2).bind fun z1 =>
  some z1

def slices_Reverse_int_int_l1  (K6 : Int → Int → List Int → Option ((List Int))) : Nat → Int → Int → List Int → Option ((List Int))
  | 0, _, _, _ => none
  | m + 1, y1, y2, y3 =>
    bif decide ((y1 : Int) < (y2 : Int)) then
      ((gi y3 y2).bind fun u13 =>
      (gi y3 y1).bind fun u15 =>
      (gi y3 y1).bind fun u17 =>
      (siM y3 y1 u13).bind fun q20 =>
      (gi y3 y2).bind fun u23 =>
      (siM q20 y2 u15).bind fun q26 =>
      slices_Reverse_int_int_l1 K6 m (w64 (y1 + 1)) (w64 (y2 - 1)) q26)
    else
      (K6 y1 y2 y3)

def slices_Reverse_int_int (x0 : List Int) : Option ((List Int)) :=
  jn (fun (y1 : Int) (y2 : Int) (y3 : List Int) =>
    some y3) fun K6 =>
  slices_Reverse_int_int_l1 K6 (((w64 ((x0.length : Int) - 1)) - 0).toNat + 1) 0 (w64 ((x0.length : Int) - 1)) x0

def impl_Repo_log_at_impl_LogPath_c1_l1 (x3 : Vm.Repo) (x4 : Str) (z32 : (List Int)) (K49 : List Int → Int → Option ((List Int))) : Nat → List Int → Int → Option ((List Int))
  | 0, _, _ => none
  | m + 1, y41, y45 =>
    bif decide ((y45 : Int) < ((z32.length : Int) : Int)) then
      (jn (fun (y57 : List Int) =>
        impl_Repo_log_at_impl_LogPath_c1_l1 x3 x4 z32 K49 m y57 (w64 (y45 + 1))) fun K64 =>
      (gi z32 y45).bind fun u70 =>
      (Vm.impl_LogPath_c1 u70 (Vm.Repo.mk x3.Commits x3.Heads) x4).bind fun z74 =>
      bif z74 then
        ((apM y41 [u70]).bind fun q93 =>
        K64 q93)
      else
        (K64 y41))
    else
      (K49 y41 y45)

def impl_Repo_log_at_impl_LogPath_c1 (x0 : Vm.Repo) (x1 : Int) (x3 : Vm.Repo) (x4 : Str) : Option ((List Int)) :=
  (Vm.impl_Repo_are x0 ([x1] : List Int)).bind fun z13 =>
  bif (!z13) then
    (some ([] : List Int))
  else
    ((Vm.impl_Repo_ancestors x0 x1).bind fun z24 =>
    (Vm.impl_listOf z24).bind fun z32 =>
    jn (fun (y41 : List Int) (y45 : Int) =>
      (Vm.slices_Reverse_int_int y41).bind fun z104 =>
      some z104) fun K49 =>
    impl_Repo_log_at_impl_LogPath_c1_l1 x3 x4 z32 K49 (((z32.length : Int) - 0).toNat + 1) ([] : List Int) 0)

def impl_LogPath (x0 : Vm.Repo) (x1 : Int) (x2 : Str) : Option ((List Int)) :=
  (Vm.impl_Repo_log_at_impl_LogPath_c1 x0 x1 x0 x2).bind fun z9 =>
  some z9

def spec_l12Under_l1 (x0 : List Vm.File) (x1 : Str) (K8 : List Vm.File → Int → Option ((List Vm.File))) : Nat → List Vm.File → Int → Option ((List Vm.File))
  | 0, _, _ => none
  | m + 1, y3, y6 =>
    bif decide ((y6 : Int) < ((x0.length : Int) : Int)) then
      (jn (fun (y15 : List Vm.File) =>
        spec_l12Under_l1 x0 x1 K8 m y15 (w64 (y6 + 1))) fun K19 =>
      jn (fun (y21 : Bool) =>
        bif y21 then
          ((gi x0 y6).bind fun u27 =>
          (apM y3 [u27]).bind fun q39 =>
          K19 q39)
        else
          (K19 y3)) fun K23 =>
      (gi x0 y6).bind fun u44 =>
      bif (u44.Path == x1) then
        (K23 true)
      else
        ((gi x0 y6).bind fun u47 =>
        (Vm.spec_l4In x1 u47.Path).bind fun z49 =>
        K23 z49))
    else
      (K8 y3 y6)

def spec_l12Under (x0 : List Vm.File) (x1 : Str) : Option ((List Vm.File)) :=
  jn (fun (y3 : List Vm.File) (y6 : Int) =>
    some y3) fun K8 =>
  spec_l12Under_l1 x0 x1 K8 (((x0.length : Int) - 0).toNat + 1) ([] : List File) 0

def spec_l12Same_l1 (x0 : List Vm.File) (x1 : List Vm.File) (K5 : Bool → Int → Option (Bool)) : Nat → Bool → Int → Option (Bool)
  | 0, _, _ => none
  | m + 1, y2, y3 =>
    bif decide ((y3 : Int) < ((x0.length : Int) : Int)) then
      (jn (fun (y10 : Bool) =>
        bif y10 then
          (some false)
        else
          (spec_l12Same_l1 x0 x1 K5 m y2 (w64 (y3 + 1)))) fun K12 =>
      (gi x0 y3).bind fun u17 =>
      (gi x1 y3).bind fun u20 =>
      bif (u17.Path != u20.Path) then
        (K12 true)
      else
        ((gi x0 y3).bind fun u24 =>
        (gi x1 y3).bind fun u29 =>
        (Vm.spec_l1Same u24.Text u29.Text).bind fun z34 =>
        K12 (!z34)))
    else
      (K5 y2 y3)

def spec_l12Same (x0 : List Vm.File) (x1 : List Vm.File) : Option (Bool) :=
  bif (((x0.length : Int) : Int) != ((x1.length : Int) : Int)) then
    (some false)
  else
    (jn (fun (y2 : Bool) (y3 : Int) =>
      some true) fun K5 =>
    spec_l12Same_l1 x0 x1 K5 (((x0.length : Int) - 0).toNat + 1) false 0)

def spec_l12Touch_l1 (x0 : Vm.Repo) (x2 : Str) (u3 : Vm.Commit) (z20 : (List Vm.File)) (K33 : Bool → Int → Option (Bool)) : Nat → Bool → Int → Option (Bool)
  | 0, _, _ => none
  | m + 1, y30, y31 =>
    bif decide ((y31 : Int) < ((u3.Parents.length : Int) : Int)) then
      ((gi u3.Parents y31).bind fun u46 =>
      (gi x0.Commits u46).bind fun u49 =>
      (Vm.spec_l12Under u49.Tree x2).bind fun z55 =>
      (Vm.spec_l12Same z55 z20).bind fun z65 =>
      bif z65 then
        (some false)
      else
        (spec_l12Touch_l1 x0 x2 u3 z20 K33 m y30 (w64 (y31 + 1))))
    else
      (K33 y30 y31)

def spec_l12Touch (x0 : Vm.Repo) (x1 : Int) (x2 : Str) : Option (Bool) :=
  (gi x0.Commits x1).bind fun u3 =>
  (Vm.spec_l12Under u3.Tree x2).bind fun z20 =>
  bif (((u3.Parents.length : Int) : Int) == (0 : Int)) then
    (some (decide ((0 : Int) < ((z20.length : Int) : Int))))
  else
    (jn (fun (y30 : Bool) (y31 : Int) =>
      some true) fun K33 =>
    spec_l12Touch_l1 x0 x2 u3 z20 K33 (((u3.Parents.length : Int) - 0).toNat + 1) false 0)

def spec_LogPath_l1 (x0 : Vm.Repo) (x2 : Str) (z15 : (List Int)) (K26 : List Int → Int → Option ((List Int))) : Nat → List Int → Int → Option ((List Int))
  | 0, _, _ => none
  | m + 1, y21, y24 =>
    bif decide ((0 : Int) ≤ (y24 : Int)) then
      (jn (fun (y32 : List Int) =>
        spec_LogPath_l1 x0 x2 z15 K26 m y32 (w64 (y24 - 1))) fun K36 =>
      (gi z15 y24).bind fun u45 =>
      (Vm.spec_l12Touch x0 u45 x2).bind fun z49 =>
      bif z49 then
        ((gi z15 y24).bind fun u57 =>
        (apM y21 [u57]).bind fun q64 =>
        K36 q64)
      else
        (K36 y21))
    else
      (K26 y21 y24)

def spec_LogPath (x0 : Vm.Repo) (x1 : Int) (x2 : Str) : Option ((List Int)) :=
  jn (fun (y6 : Bool) =>
    bif y6 then
      (some ([] : List Int))
    else
      ((Vm.spec_l8All x0 x1).bind fun z15 =>
      jn (fun (y21 : List Int) (y24 : Int) =>
        some y21) fun K26 =>
      spec_LogPath_l1 x0 x2 z15 K26 (((w64 ((z15.length : Int) - 1)) + 1 - 0).toNat + 1) ([] : List Int) (w64 ((z15.length : Int) - 1)))) fun K8 =>
  (Vm.spec_l7Ok x0).bind fun z73 =>
  bif (!z73) then
    (K8 true)
  else
    ((Vm.spec_l1In x1 0 (w64 ((x0.Commits.length : Int) - 1))).bind fun z81 =>
    K8 (!z81))

def laws_smUnder_l1 (x0 : List Vm.File) (x1 : Str) (K8 : List Vm.File → Int → Option ((List Vm.File))) : Nat → List Vm.File → Int → Option ((List Vm.File))
  | 0, _, _ => none
  | m + 1, y3, y6 =>
    bif decide ((y6 : Int) < ((x0.length : Int) : Int)) then
      (jn (fun (y15 : List Vm.File) =>
        laws_smUnder_l1 x0 x1 K8 m y15 (w64 (y6 + 1))) fun K19 =>
      jn (fun (y21 : Bool) =>
        bif y21 then
          ((gi x0 y6).bind fun u27 =>
          (apM y3 [u27]).bind fun q39 =>
          K19 q39)
        else
          (K19 y3)) fun K23 =>
      (gi x0 y6).bind fun u44 =>
      bif (u44.Path == x1) then
        (K23 true)
      else
        ((gi x0 y6).bind fun u47 =>
        (Vm.impl_PathIn x1 u47.Path).bind fun z50 =>
        K23 z50))
    else
      (K8 y3 y6)

def laws_smUnder (x0 : List Vm.File) (x1 : Str) : Option ((List Vm.File)) :=
  jn (fun (y3 : List Vm.File) (y6 : Int) =>
    some y3) fun K8 =>
  laws_smUnder_l1 x0 x1 K8 (((x0.length : Int) - 0).toNat + 1) ([] : List File) 0

def laws_smIn_l1 (x0 : List Int) (x1 : Int) (K4 : Bool → Int → Option (Bool)) : Nat → Bool → Int → Option (Bool)
  | 0, _, _ => none
  | m + 1, y1, y2 =>
    bif decide ((y2 : Int) < ((x0.length : Int) : Int)) then
      ((gi x0 y2).bind fun u9 =>
      bif ((u9 : Int) == (x1 : Int)) then
        (some true)
      else
        (laws_smIn_l1 x0 x1 K4 m y1 (w64 (y2 + 1))))
    else
      (K4 y1 y2)

def laws_smIn (x0 : List Int) (x1 : Int) : Option (Bool) :=
  jn (fun (y1 : Bool) (y2 : Int) =>
    some false) fun K4 =>
  laws_smIn_l1 x0 x1 K4 (((x0.length : Int) - 0).toNat + 1) false 0

def laws_FnLogPath_l2 (z2 : Vm.Repo × Int × Str) (u82 : Vm.Commit) (z107 : (List Vm.File)) (K132 : Bool → Int → Option (Bool)) : Nat → Bool → Int → Option (Bool)
  | 0, _, _ => none
  | m + 1, y129, y130 =>
    bif decide ((y130 : Int) < ((u82.Parents.length : Int) : Int)) then
      (bif y129 then
        ((gi u82.Parents y130).bind fun u154 =>
        (gi z2.1.Commits u154).bind fun u157 =>
        (Vm.laws_smUnder u157.Tree z2.2.2).bind fun z163 =>
        (Vm.laws_smTree z163 z107).bind fun z177 =>
        laws_FnLogPath_l2 z2 u82 z107 K132 m (!z177) (w64 (y130 + 1)))
      else
        (laws_FnLogPath_l2 z2 u82 z107 K132 m false (w64 (y130 + 1))))
    else
      (K132 y129 y130)

def laws_FnLogPath_l3 (z15 : (List Int)) (z49 : (List Int)) (K209 : Bool → Int → Option (Bool)) : Nat → Bool → Int → Option (Bool)
  | 0, _, _ => none
  | m + 1, y206, y207 =>
    bif decide ((y207 : Int) < ((z15.length : Int) : Int)) then
      (jn (fun (y218 : Bool) =>
        bif y218 then
          (some false)
        else
          (laws_FnLogPath_l3 z15 z49 K209 m y206 (w64 (y207 + 1)))) fun K220 =>
      bif decide ((0 : Int) < (y207 : Int)) then
        ((gi z15 y207).bind fun u236 =>
        (gi z15 (w64 (y207 - 1))).bind fun u238 =>
        bif decide ((u238 : Int) ≤ (u236 : Int)) then
          (K220 true)
        else
          ((gi z15 y207).bind fun u241 =>
          (Vm.laws_smIn z49 u241).bind fun z243 =>
          K220 (!z243)))
      else
        ((gi z15 y207).bind fun u252 =>
        (Vm.laws_smIn z49 u252).bind fun z254 =>
        K220 (!z254)))
    else
      (K209 y206 y207)

def laws_FnLogPath_l1 (z2 : Vm.Repo × Int × Str) (z15 : (List Int)) (z49 : (List Int)) (K64 : Bool → Int → Option (Bool)) : Nat → Bool → Int → Option (Bool)
  | 0, _, _ => none
  | m + 1, y57, y58 =>
    bif decide ((y58 : Int) < ((z49.length : Int) : Int)) then
      ((gi z49 y58).bind fun u80 =>
      (gi z2.1.Commits u80).bind fun u82 =>
      (Vm.laws_smUnder u82.Tree z2.2.2).bind fun z107 =>
      jn (fun (y118 : Bool) =>
        jn (fun (y129 : Bool) (y130 : Int) =>
          (gi z49 y58).bind fun u189 =>
          (Vm.laws_smIn z15 u189).bind fun z191 =>
          bif (y129 != z191) then
            (some false)
          else
            (laws_FnLogPath_l1 z2 z15 z49 K64 m y57 (w64 (y58 + 1)))) fun K132 =>
        laws_FnLogPath_l2 z2 u82 z107 K132 (((u82.Parents.length : Int) - 0).toNat + 1) y118 0) fun K120 =>
      bif decide ((0 : Int) < ((u82.Parents.length : Int) : Int)) then
        (K120 true)
      else
        (K120 (decide ((0 : Int) < ((z107.length : Int) : Int)))))
    else
      (K64 y57 y58)

def laws_FnLogPath (x0 : List Byte) : Option (Bool) :=
  bif decide ((1048576 : Int) < ((x0.length : Int) : Int)) then
    (some true)
  else
    ((Vm.spec_DrawLogPath x0).bind fun z2 =>
    (Vm.impl_LogPath (Vm.Repo.mk z2.1.Commits z2.1.Heads) z2.2.1 z2.2.2).bind fun z15 =>
    jn (fun (y22 : Bool) =>
      bif y22 then
        ((Vm.spec_LogPath (Vm.Repo.mk z2.1.Commits z2.1.Heads) z2.2.1 z2.2.2).bind fun z31 =>
        (Vm.laws_smInts z15 z31).bind fun z39 =>
        some z39)
      else
        ((Vm.impl_AncAll (Vm.Repo.mk z2.1.Commits z2.1.Heads) z2.2.1).bind fun z49 =>
        jn (fun (y57 : Bool) (y58 : Int) =>
          jn (fun (y206 : Bool) (y207 : Int) =>
            some true) fun K209 =>
          laws_FnLogPath_l3 z15 z49 K209 (((z15.length : Int) - 0).toNat + 1) y57 0) fun K64 =>
        laws_FnLogPath_l1 z2 z15 z49 K64 (((z49.length : Int) - 0).toNat + 1) false 0)) fun K24 =>
    (Vm.spec_LogPath (Vm.Repo.mk z2.1.Commits z2.1.Heads) z2.2.1 z2.2.2).bind fun z263 =>
    (Vm.laws_smInts z15 z263).bind fun z271 =>
    bif (!z271) then
      (K24 true)
    else
      ((Vm.impl_RepoOk (Vm.Repo.mk z2.1.Commits z2.1.Heads)).bind fun z282 =>
      bif (!z282) then
        (K24 true)
      else
        (bif decide ((z2.2.1 : Int) < (0 : Int)) then
          (K24 true)
        else
          (K24 (decide (((z2.1.Commits.length : Int) : Int) ≤ (z2.2.1 : Int)))))))

end Go.Vm
