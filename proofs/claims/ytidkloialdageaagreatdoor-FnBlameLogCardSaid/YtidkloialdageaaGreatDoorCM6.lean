/- Models of the functions: plain Lean, printed by a program of ours. Conditions: none. -/
import Derived.Test.YtidkloialdageaaGreatDoorCLw
import Derived.Test.YtidkloialdageaaGreatDoorCM0
import Derived.Test.YtidkloialdageaaGreatDoorCM1
import Derived.Test.YtidkloialdageaaGreatDoorCM3
namespace Go.Vm
open Go Go.Sx
set_option linter.unusedVariables false
set_option linter.unusedSimpArgs false
def impl_isAt (x0 : Vm.File) (x1 : Str) : Option (Bool) :=
 jn (fun (y3 : Bool) =>
 some y3) fun K5 =>
 bif (x0.Path == x1) then
 (K5 true)
 else
 ((saM x1 ([47] : Str)).bind fun q9 =>
 (Vm.strings_HasPrefix x0.Path q9).bind fun z11 =>
 K5 z11)
def impl_under_l1 (x0 : List Vm.File) (x1 : Str) (K7 : List Vm.File → Int → Option ((List Vm.File))) : Nat → List Vm.File → Int → Option ((List Vm.File))
 | 0, _, _ => none
 | m + 1, y1, y5 =>
 bif decide ((y5 : Int) < ((x0.length : Int) : Int)) then
 (jn (fun (y11 : List Vm.File) =>
 impl_under_l1 x0 x1 K7 m y11 (w64 (y5 + 1))) fun K16 =>
 (gi x0 y5).bind fun u18 =>
 (Vm.impl_isAt u18 x1).bind fun z33 =>
 bif z33 then
 ((apM y1 [u18]).bind fun q45 =>
 K16 q45)
 else
 (K16 y1))
 else
 (K7 y1 y5)
def impl_under (x0 : List Vm.File) (x1 : Str) : Option ((List Vm.File)) :=
 jn (fun (y1 : List Vm.File) (y5 : Int) =>
 some y1) fun K7 =>
 impl_under_l1 x0 x1 K7 (((x0.length : Int) - 0).toNat + 1) ([] : List File) 0
def slices_Equal_string_string_l1 (x0 : List Str) (x1 : List Str) (K6 : Bool → Int → Option (Bool)) : Nat → Bool → Int → Option (Bool)
 | 0, _, _ => none
 | m + 1, y2, y4 =>
 bif decide ((y4 : Int) < ((x0.length : Int) : Int)) then
 ((gi x0 y4).bind fun u12 =>
 (gi x1 y4).bind fun u15 =>
 bif (u12 != u15) then
 (some false)
 else
 (slices_Equal_string_string_l1 x0 x1 K6 m y2 (w64 (y4 + 1))))
 else
 (K6 y2 y4)
def slices_Equal_string_string (x0 : List Str) (x1 : List Str) : Option (Bool) :=
 bif (((x0.length : Int) : Int) != ((x1.length : Int) : Int)) then
 (some false)
 else
 (jn (fun (y2 : Bool) (y4 : Int) =>
 some true) fun K6 =>
 slices_Equal_string_string_l1 x0 x1 K6 (((x0.length : Int) - 0).toNat + 1) false 0)
def impl_sameTree_c1 (x0 : Vm.File) (x1 : Vm.File) : Option (Bool) :=
 jn (fun (y6 : Bool) =>
 some y6) fun K8 =>
 bif (x0.Path == x1.Path) then
 ((Vm.slices_Equal_string_string x0.Text x1.Text).bind fun z15 =>
 K8 z15)
 else
 (K8 false)
def slices_EqualFunc_impl_File_impl_File_impl_File_impl_File_at_impl_sameTree_c1_l1 (x0 : List Vm.File) (x1 : List Vm.File) (K8 : Bool → Int → Option (Bool)) : Nat → Bool → Int → Option (Bool)
 | 0, _, _ => none
 | m + 1, y2, y6 =>
 bif decide ((y6 : Int) < ((x0.length : Int) : Int)) then
 ((gi x0 y6).bind fun u12 =>
 (gi x1 y6).bind fun u24 =>
 (Vm.impl_sameTree_c1 u12 u24).bind fun z40 =>
 bif (!z40) then
 (some false)
 else
 (slices_EqualFunc_impl_File_impl_File_impl_File_impl_File_at_impl_sameTree_c1_l1 x0 x1 K8 m y2 (w64 (y6 + 1))))
 else
 (K8 y2 y6)
def slices_EqualFunc_impl_File_impl_File_impl_File_impl_File_at_impl_sameTree_c1 (x0 : List Vm.File) (x1 : List Vm.File) : Option (Bool) :=
 bif (((x0.length : Int) : Int) != ((x1.length : Int) : Int)) then
 (some false)
 else
 (jn (fun (y2 : Bool) (y6 : Int) =>
 some true) fun K8 =>
 slices_EqualFunc_impl_File_impl_File_impl_File_impl_File_at_impl_sameTree_c1_l1 x0 x1 K8 (((x0.length : Int) - 0).toNat + 1) false 0)
def impl_sameTree (x0 : List Vm.File) (x1 : List Vm.File) : Option (Bool) :=
 (Vm.slices_EqualFunc_impl_File_impl_File_impl_File_impl_File_at_impl_sameTree_c1 x0 x1).bind fun z1 =>
 some z1
def impl_Repo_changes_l1 (x0 : Vm.Repo) (x2 : Str) (z11 : (List Vm.File)) (u25 : Vm.Commit) (K34 : Bool → Int → Option (Bool)) : Nat → Bool → Int → Option (Bool)
 | 0, _, _ => none
 | m + 1, y30, y32 =>
 bif decide ((y32 : Int) < ((u25.Parents.length : Int) : Int)) then
 ((gi u25.Parents y32).bind fun u40 =>
 (Vm.impl_Repo_tree x0 u40).bind fun z45 =>
 (Vm.impl_under z45 x2).bind fun z52 =>
 (Vm.impl_sameTree z11 z52).bind fun z61 =>
 bif z61 then
 (some false)
 else
 (impl_Repo_changes_l1 x0 x2 z11 u25 K34 m y30 (w64 (y32 + 1))))
 else
 (K34 y30 y32)
def impl_Repo_changes (x0 : Vm.Repo) (x1 : Int) (x2 : Str) : Option (Bool) :=
 (Vm.impl_Repo_tree x0 x1).bind fun z5 =>
 (Vm.impl_under z5 x2).bind fun z11 =>
 (gi x0.Commits x1).bind fun u17 =>
 bif (((u17.Parents.length : Int) : Int) == (0 : Int)) then
 (some (decide ((0 : Int) < ((z11.length : Int) : Int))))
 else
 ((gi x0.Commits x1).bind fun u25 =>
 jn (fun (y30 : Bool) (y32 : Int) =>
 some true) fun K34 =>
 impl_Repo_changes_l1 x0 x2 z11 u25 K34 (((u25.Parents.length : Int) - 0).toNat + 1) false 0)
def impl_LogPath_c1 (x0 : Int) (x1 : Vm.Repo) (x2 : Str) : Option (Bool) :=
 (Vm.impl_Repo_changes x1 x0 x2).bind fun z1 =>
 some z1
def impl_Repo_ancestors_l2 (K30 : List Bool → Option ((List Bool))) (u36 : Vm.Commit)  : Nat → Int → List Bool → Option ((List Bool))
 | 0, _, _ => none
 | m + 1, y43, y44 =>
 bif decide ((y43 : Int) < ((u36.Parents.length : Int) : Int)) then
 ((gi u36.Parents y43).bind fun u52 =>
 (gi y44 u52).bind fun u55 =>
 (siM y44 u52 true).bind fun q58 =>
 impl_Repo_ancestors_l2 K30 u36 m (w64 (y43 + 1)) q58)
 else
 (K30 y44)
def impl_Repo_ancestors_l1 (x0 : Vm.Repo) (K21 : Int → List Bool → Option ((List Bool))) : Nat → Int → List Bool → Option ((List Bool))
 | 0, _, _ => none
 | m + 1, y16, y18 =>
 bif decide ((0 : Int) ≤ (y16 : Int)) then
 (jn (fun (y27 : List Bool) =>
 impl_Repo_ancestors_l1 x0 K21 m (w64 (y16 - 1)) y27) fun K30 =>
 (gi y18 y16).bind fun u33 =>
 bif u33 then
 ((gi x0.Commits y16).bind fun u36 =>
 impl_Repo_ancestors_l2 K30 u36 (((u36.Parents.length : Int) - 0).toNat + 1) 0 y18)
 else
 (K30 y18))
 else
 (K21 y16 y18)
def impl_Repo_ancestors (x0 : Vm.Repo) (x1 : Int) : Option ((List Bool)) :=
 (mkM (x0.Commits.length : Int) (false : Bool)).bind fun q4 =>
 (gi q4 x1).bind fun u9 =>
 (siM q4 x1 true).bind fun q12 =>
 jn (fun (y16 : Int) (y18 : List Bool) =>
 some y18) fun K21 =>
 impl_Repo_ancestors_l1 x0 K21 ((x1 + 1 - 0).toNat + 1) x1 q12
def impl_listOf_l1 (x0 : List Bool) (K8 : List Int → Int → Option ((List Int))) : Nat → List Int → Int → Option ((List Int))
 | 0, _, _ => none
 | m + 1, y1, y6 =>
 bif decide ((y6 : Int) < ((x0.length : Int) : Int)) then
 (jn (fun (y12 : List Int) =>
 impl_listOf_l1 x0 K8 m y12 (w64 (y6 + 1))) fun K18 =>
 (gi x0 y6).bind fun u20 =>
 bif u20 then
 ((apM y1 [y6]).bind fun q27 =>
 K18 q27)
 else
 (K18 y1))
 else
 (K8 y1 y6)
def impl_listOf (x0 : List Bool) : Option ((List Int)) :=
 jn (fun (y1 : List Int) (y6 : Int) =>
 some y1) fun K8 =>
 impl_listOf_l1 x0 K8 (((x0.length : Int) - 0).toNat + 1) ([] : List Int) 0
def slices_Reverse_int_int_l1  (K6 : Int → Int → List Int → Option ((List Int))) : Nat → Int → Int → List Int → Option ((List Int))
 | 0, _, _, _ => none
 | m + 1, y1, y2, y3 =>
 bif decide ((y1 : Int) < (y2 : Int)) then
 ((gi y3 y2).bind fun u13 =>
 (gi y3 y1).bind fun u15 =>
 (gi y3 y1).bind fun u17 =>
 (siM y3 y1 u13).bind fun q20 =>
 (gi y3 y2).bind fun u23 =>
 (siM q20 y2 u15).bind fun q26 =>
 slices_Reverse_int_int_l1 K6 m (w64 (y1 + 1)) (w64 (y2 - 1)) q26)
 else
 (K6 y1 y2 y3)
def slices_Reverse_int_int (x0 : List Int) : Option ((List Int)) :=
 jn (fun (y1 : Int) (y2 : Int) (y3 : List Int) =>
 some y3) fun K6 =>
 slices_Reverse_int_int_l1 K6 (((w64 ((x0.length : Int) - 1)) - 0).toNat + 1) 0 (w64 ((x0.length : Int) - 1)) x0
def impl_Repo_log_at_impl_LogPath_c1_l1 (x3 : Vm.Repo) (x4 : Str) (z32 : (List Int)) (K49 : List Int → Int → Option ((List Int))) : Nat → List Int → Int → Option ((List Int))
 | 0, _, _ => none
 | m + 1, y41, y45 =>
 bif decide ((y45 : Int) < ((z32.length : Int) : Int)) then
 (jn (fun (y57 : List Int) =>
 impl_Repo_log_at_impl_LogPath_c1_l1 x3 x4 z32 K49 m y57 (w64 (y45 + 1))) fun K64 =>
 (gi z32 y45).bind fun u70 =>
 (Vm.impl_LogPath_c1 u70 (Vm.Repo.mk x3.Commits x3.Heads) x4).bind fun z74 =>
 bif z74 then
 ((apM y41 [u70]).bind fun q93 =>
 K64 q93)
 else
 (K64 y41))
 else
 (K49 y41 y45)
def impl_Repo_log_at_impl_LogPath_c1 (x0 : Vm.Repo) (x1 : Int) (x3 : Vm.Repo) (x4 : Str) : Option ((List Int)) :=
 (Vm.impl_Repo_are x0 ([x1] : List Int)).bind fun z13 =>
 bif (!z13) then
 (some ([] : List Int))
 else
 ((Vm.impl_Repo_ancestors x0 x1).bind fun z24 =>
 (Vm.impl_listOf z24).bind fun z32 =>
 jn (fun (y41 : List Int) (y45 : Int) =>
 (Vm.slices_Reverse_int_int y41).bind fun z104 =>
 some z104) fun K49 =>
 impl_Repo_log_at_impl_LogPath_c1_l1 x3 x4 z32 K49 (((z32.length : Int) - 0).toNat + 1) ([] : List Int) 0)
def impl_LogPath (x0 : Vm.Repo) (x1 : Int) (x2 : Str) : Option ((List Int)) :=
 (Vm.impl_Repo_log_at_impl_LogPath_c1 x0 x1 x0 x2).bind fun z9 =>
 some z9
def laws_FnBlameLog_l1 (z2 : Vm.Repo × Int × Str) (z15 : (List Int)) (z49 : (List Int)) (K60 : Bool → Int → Option (Bool)) : Nat → Bool → Int → Option (Bool)
 | 0, _, _ => none
 | m + 1, y57, y58 =>
 bif decide ((y58 : Int) < ((z15.length : Int) : Int)) then
 (jn (fun (y69 : Bool) =>
 bif y69 then
 (some false)
 else
 (laws_FnBlameLog_l1 z2 z15 z49 K60 m y57 (w64 (y58 + 1)))) fun K71 =>
 (gi z15 y58).bind fun u86 =>
 (gi z2.1.Commits u86).bind fun u88 =>
 bif decide (((u88.Parents.length : Int) : Int) < (2 : Int)) then
 ((gi z15 y58).bind fun u94 =>
 (Vm.laws_smIn z49 u94).bind fun z96 =>
 K71 (!z96))
 else
 (K71 false))
 else
 (K60 y57 y58)
def laws_FnBlameLog (x0 : List Byte) : Option (Bool) :=
 bif decide ((1048576 : Int) < ((x0.length : Int) : Int)) then
 (some true)
 else
 ((Vm.spec_DrawBlameOf x0).bind fun z2 =>
 (Vm.impl_BlameOf (Vm.Repo.mk z2.1.Commits z2.1.Heads) z2.2.1 z2.2.2).bind fun z15 =>
 jn (fun (y22 : Bool) =>
 bif y22 then
 ((Vm.spec_BlameOf (Vm.Repo.mk z2.1.Commits z2.1.Heads) z2.2.1 z2.2.2).bind fun z31 =>
 (Vm.laws_smInts z15 z31).bind fun z39 =>
 some z39)
 else
 ((Vm.impl_LogPath (Vm.Repo.mk z2.1.Commits z2.1.Heads) z2.2.1 z2.2.2).bind fun z49 =>
 jn (fun (y57 : Bool) (y58 : Int) =>
 some true) fun K60 =>
 laws_FnBlameLog_l1 z2 z15 z49 K60 (((z15.length : Int) - 0).toNat + 1) false 0)) fun K24 =>
 (Vm.spec_BlameOf (Vm.Repo.mk z2.1.Commits z2.1.Heads) z2.2.1 z2.2.2).bind fun z105 =>
 (Vm.laws_smInts z15 z105).bind fun z113 =>
 bif (!z113) then
 (K24 true)
 else
 (K24 (((z15.length : Int) : Int) == (0 : Int))))
end Go.Vm
