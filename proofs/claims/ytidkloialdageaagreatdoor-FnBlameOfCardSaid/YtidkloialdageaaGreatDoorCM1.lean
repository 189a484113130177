/- Models of the functions: plain Lean, printed by a program of ours. Conditions: none. -/
import Derived.Test.YtidkloialdageaaGreatDoorCLw
import Derived.Test.YtidkloialdageaaGreatDoorCM0
namespace Go.Vm
open Go Go.Sx
set_option linter.unusedVariables false
set_option linter.unusedSimpArgs false
def spec_l30At (x0 : Vm.l30Rd) (x1 : Vm.Repo) : Option (Int × Int) :=
 (Vm.spec_l30Rd_pick x0 14).bind fun z5 =>
 bif ((z5.1 : Int) == (0 : Int)) then
 ((Vm.spec_l30Rd_one (Vm.l30Rd.mk x0.b z5.2) ([(-1), (x1.Commits.length : Int)] : List Int)).bind fun z17 =>
 some (z17.1, z17.2))
 else
 ((Vm.spec_l30Rd_pick (Vm.l30Rd.mk x0.b z5.2) (x1.Commits.length : Int)).bind fun z25 =>
 some (z25.1, z25.2))
def spec_DrawBlameOf (x0 : List Byte) : Option (Vm.Repo × Int × Str) :=
 (Vm.spec_l30Open x0).bind fun z4 =>
 (Vm.spec_l30AnyRepo z4).bind fun z10 =>
 (Vm.spec_l30At (Vm.l30Rd.mk z4.b z10.2) (Vm.Repo.mk z10.1.Commits z10.1.Heads)).bind fun z28 =>
 jn (fun (y36 : Bool) (y37 : List Byte) (y40 : Int) =>
 bif y36 then
 ((gi z10.1.Commits z28.1).bind fun u57 =>
 (gi z10.1.Commits z28.1).bind fun u62 =>
 (Vm.spec_l30Rd_pick (Vm.l30Rd.mk y37 y40) (u62.Tree.length : Int)).bind fun z68 =>
 (gi u57.Tree z68.1).bind fun u76 =>
 some (Vm.Repo.mk z10.1.Commits z10.1.Heads, z28.1, u76.Path))
 else
 ((Vm.spec_l30Path (Vm.l30Rd.mk y37 y40)).bind fun z261 =>
 some (Vm.Repo.mk z10.1.Commits z10.1.Heads, z28.1, z261.1))) fun K43 =>
 (Vm.spec_l1In z28.1 0 (w64 ((z10.1.Commits.length : Int) - 1))).bind fun z287 =>
 bif z287 then
 ((gi z10.1.Commits z28.1).bind fun u297 =>
 bif decide ((0 : Int) < ((u297.Tree.length : Int) : Int)) then
 ((Vm.spec_l30Rd_pick (Vm.l30Rd.mk z4.b z28.2) 4).bind fun z304 =>
 K43 (decide ((0 : Int) < (z304.1 : Int))) z4.b z304.2)
 else
 (K43 false z4.b z28.2))
 else
 (K43 false z4.b z28.2)
def impl_Repo_are_l1 (x0 : Vm.Repo) (x1 : List Int) (K17 : Bool → Int → Option (Bool)) : Nat → Bool → Int → Option (Bool)
 | 0, _, _ => none
 | m + 1, y13, y15 =>
 bif decide ((y15 : Int) < ((x1.length : Int) : Int)) then
 ((gi x1 y15).bind fun u22 =>
 (Vm.impl_Repo_exists x0 u22).bind fun z27 =>
 bif (!z27) then
 (some false)
 else
 (impl_Repo_are_l1 x0 x1 K17 m y13 (w64 (y15 + 1))))
 else
 (K17 y13 y15)
def impl_Repo_are (x0 : Vm.Repo) (x1 : List Int) : Option (Bool) :=
 (Vm.impl_RepoOk x0).bind fun z6 =>
 bif (!z6) then
 (some false)
 else
 (jn (fun (y13 : Bool) (y15 : Int) =>
 some true) fun K17 =>
 impl_Repo_are_l1 x0 x1 K17 (((x1.length : Int) - 0).toNat + 1) false 0)
def impl_get_l1 (x0 : List Vm.File) (x1 : Str) (K8 : List Str → Bool → Int → Option ((List Str) × Bool)) : Nat → List Str → Bool → Int → Option ((List Str) × Bool)
 | 0, _, _, _ => none
 | m + 1, y1, y4, y6 =>
 bif decide ((y6 : Int) < ((x0.length : Int) : Int)) then
 ((gi x0 y6).bind fun u12 =>
 bif (u12.Path == x1) then
 ((Vm.impl_copyText u12.Text).bind fun z28 =>
 some (z28, true))
 else
 (impl_get_l1 x0 x1 K8 m y1 y4 (w64 (y6 + 1))))
 else
 (K8 y1 y4 y6)
def impl_get (x0 : List Vm.File) (x1 : Str) : Option ((List Str) × Bool) :=
 jn (fun (y1 : List Str) (y4 : Bool) (y6 : Int) =>
 some (([] : List Str), false)) fun K8 =>
 impl_get_l1 x0 x1 K8 (((x0.length : Int) - 0).toNat + 1) ([] : List Str) false 0
def impl_Repo_first (x0 : Vm.Repo) (x1 : Int) : Option (Int) :=
 (gi x0.Commits x1).bind fun u3 =>
 bif (((u3.Parents.length : Int) : Int) == (0 : Int)) then
 (some (-1))
 else
 ((gi x0.Commits x1).bind fun u10 =>
 (gi u10.Parents 0).bind fun u15 =>
 some u15)
def impl_lcs_l3 (x0 : List Str) (x1 : List Str) (y27 : Int) (K41 : Int → List (List Int) → Option ((List (List Int)))) : Nat → Int → List (List Int) → Option ((List (List Int)))
 | 0, _, _ => none
 | m + 1, y37, y38 =>
 bif decide ((0 : Int) ≤ (y37 : Int)) then
 (jn (fun (y45 : List (List Int)) =>
 impl_lcs_l3 x0 x1 y27 K41 m (w64 (y37 - 1)) y45) fun K48 =>
 (gi x0 y27).bind fun u53 =>
 (gi x1 y37).bind fun u56 =>
 bif (u53 == u56) then
 ((gi y38 y27).bind fun u63 =>
 (gi y38 (w64 (y27 + 1))).bind fun u68 =>
 (gi u68 (w64 (y37 + 1))).bind fun u73 =>
 (gi u63 y37).bind fun u75 =>
 (siM u63 y37 (w64 (u73 + 1))).bind fun q80 =>
 (siM y38 y27 q80).bind fun q84_ =>
 K48 q84_)
 else
 ((gi y38 y27).bind fun u89 =>
 (gi y38 (w64 (y27 + 1))).bind fun u94 =>
 (gi u94 y37).bind fun u99 =>
 (gi y38 y27).bind fun u101 =>
 (gi u101 (w64 (y37 + 1))).bind fun u106 =>
 (gi u89 y37).bind fun u108 =>
 (siM u89 y37 (maxI u99 u106)).bind fun q113 =>
 (siM y38 y27 q113).bind fun q117_ =>
 K48 q117_))
 else
 (K41 y37 y38)
def impl_lcs_l2 (x0 : List Str) (x1 : List Str) (K32 : Int → List (List Int) → Option ((List (List Int)))) : Nat → Int → List (List Int) → Option ((List (List Int)))
 | 0, _, _ => none
 | m + 1, y27, y29 =>
 bif decide ((0 : Int) ≤ (y27 : Int)) then
 (jn (fun (y37 : Int) (y38 : List (List Int)) =>
 impl_lcs_l2 x0 x1 K32 m (w64 (y27 - 1)) y38) fun K41 =>
 impl_lcs_l3 x0 x1 y27 K41 (((w64 ((x1.length : Int) - 1)) + 1 - 0).toNat + 1) (w64 ((x1.length : Int) - 1)) y29)
 else
 (K32 y27 y29)
def impl_lcs_l1 (x1 : List Str) (q1 : List (List Int)) (K10 : Int → List (List Int) → Option ((List (List Int)))) : Nat → Int → List (List Int) → Option ((List (List Int)))
 | 0, _, _ => none
 | m + 1, y6, y7 =>
 bif decide ((y6 : Int) < ((q1.length : Int) : Int)) then
 ((mkM (w64 ((x1.length : Int) + 1)) (0 : Int)).bind fun q15 =>
 (gi y7 y6).bind fun u20 =>
 (siM y7 y6 q15).bind fun q23 =>
 impl_lcs_l1 x1 q1 K10 m (w64 (y6 + 1)) q23)
 else
 (K10 y6 y7)
def impl_lcs (x0 : List Str) (x1 : List Str) : Option ((List (List Int))) :=
 (mkM (w64 ((x0.length : Int) + 1)) (([] : List Int) : List Int)).bind fun q1 =>
 jn (fun (y6 : Int) (y7 : List (List Int)) =>
 jn (fun (y27 : Int) (y29 : List (List Int)) =>
 some y29) fun K32 =>
 impl_lcs_l2 x0 x1 K32 (((w64 ((x0.length : Int) - 1)) + 1 - 0).toNat + 1) (w64 ((x0.length : Int) - 1)) y7) fun K10 =>
 impl_lcs_l1 x1 q1 K10 (((q1.length : Int) - 0).toNat + 1) 0 q1
def impl_match_l1 (x0 : List Str) (x1 : List Str) (z1 : (List (List Int))) (K11 : List Int → Int → Int → Option ((List Int))) : Nat → List Int → Int → Int → Option ((List Int))
 | 0, _, _, _ => none
 | m + 1, y5, y8, y9 =>
 bif decide ((y8 : Int) < ((x0.length : Int) : Int)) then
 (jn (fun (y17 : Bool) =>
 bif y17 then
 ((apM y5 [y9]).bind fun q28 =>
 impl_match_l1 x0 x1 z1 K11 m q28 (w64 (y8 + 1)) (w64 (y9 + 1)))
 else
 (jn (fun (y34 : Bool) =>
 bif y34 then
 ((apM y5 [(-1)]).bind fun q45 =>
 impl_match_l1 x0 x1 z1 K11 m q45 (w64 (y8 + 1)) y9)
 else
 (impl_match_l1 x0 x1 z1 K11 m y5 y8 (w64 (y9 + 1)))) fun K36 =>
 bif ((y9 : Int) == ((x1.length : Int) : Int)) then
 (K36 true)
 else
 ((gi z1 (w64 (y8 + 1))).bind fun u57 =>
 (gi u57 y9).bind fun u62 =>
 (gi z1 y8).bind fun u64 =>
 (gi u64 (w64 (y9 + 1))).bind fun u69 =>
 K36 (decide ((u69 : Int) ≤ (u62 : Int)))))) fun K19 =>
 bif decide ((y9 : Int) < ((x1.length : Int) : Int)) then
 ((gi x0 y8).bind fun u77 =>
 (gi x1 y9).bind fun u80 =>
 K19 (u77 == u80))
 else
 (K19 false))
 else
 (K11 y5 y8 y9)
def impl_match (x0 : List Str) (x1 : List Str) : Option ((List Int)) :=
 (Vm.impl_lcs x0 x1).bind fun z1 =>
 jn (fun (y5 : List Int) (y8 : Int) (y9 : Int) =>
 some y5) fun K11 =>
 impl_match_l1 x0 x1 z1 K11 (x0.length + x1.length + 1) ([] : List Int) 0 0
def impl_Repo_blame_l2 (z54 : (List Int) × Bool) (z81 : (List Int)) (K96 : Int → List Int → Option ((List Int) × Bool)) : Nat → Int → List Int → Option ((List Int) × Bool)
 | 0, _, _ => none
 | m + 1, y92, y93 =>
 bif decide ((y92 : Int) < ((z81.length : Int) : Int)) then
 (jn (fun (y107 : List Int) =>
 impl_Repo_blame_l2 z54 z81 K96 m (w64 (y92 + 1)) y107) fun K110 =>
 (gi z81 y92).bind fun u117 =>
 bif decide ((0 : Int) ≤ (u117 : Int)) then
 ((gi z54.1 y92).bind fun u120 =>
 (gi y93 u117).bind fun u122 =>
 (siM y93 u117 u120).bind fun q125 =>
 K110 q125)
 else
 (K110 y93))
 else
 (K96 y92 y93)
def impl_Repo_blame_l1 (x1 : Int) (q17 : List Int) (K28 : Int → List Int → Option ((List Int) × Bool)) : Nat → Int → List Int → Option ((List Int) × Bool)
 | 0, _, _ => none
 | m + 1, y24, y25 =>
 bif decide ((y24 : Int) < ((q17.length : Int) : Int)) then
 ((gi y25 y24).bind fun u34 =>
 (siM y25 y24 x1).bind fun q37 =>
 impl_Repo_blame_l1 x1 q17 K28 m (w64 (y24 + 1)) q37)
 else
 (K28 y24 y25)
def impl_Repo_blame_r : Nat → Vm.Repo → Int → Str → Option ((List Int) × Bool)
 | 0, _, _, _ => none
 | m + 1, x0, x1, x2 =>
 (Vm.impl_Repo_tree x0 x1).bind fun z5 =>
 (Vm.impl_get z5 x2).bind fun z11 =>
 bif (!z11.2) then
 (some (([] : List Int), false))
 else
 ((mkM (z11.1.length : Int) (0 : Int)).bind fun q17 =>
 jn (fun (y24 : Int) (y25 : List Int) =>
 (Vm.impl_Repo_first x0 x1).bind fun z44 =>
 bif decide ((z44 : Int) < (0 : Int)) then
 (some (y25, true))
 else
 ((Vm.impl_Repo_blame_r m x0 z44 x2).bind fun z54 =>
 bif (!z54.2) then
 (some (y25, true))
 else
 ((Vm.impl_Repo_tree x0 z44).bind fun z64 =>
 (Vm.impl_get z64 x2).bind fun z73 =>
 (Vm.impl_match z73.1 z11.1).bind fun z81 =>
 jn (fun (y92 : Int) (y93 : List Int) =>
 some (y93, true)) fun K96 =>
 impl_Repo_blame_l2 z54 z81 K96 (((z81.length : Int) - 0).toNat + 1) 0 y25))) fun K28 =>
 impl_Repo_blame_l1 x1 q17 K28 (((q17.length : Int) - 0).toNat + 1) 0 q17)
def impl_Repo_blame (x0 : Vm.Repo) (x1 : Int) (x2 : Str) : Option ((List Int) × Bool) :=
 impl_Repo_blame_r (x1.toNat + 2) x0 x1 x2
def impl_BlameOf (x0 : Vm.Repo) (x1 : Int) (x2 : Str) : Option ((List Int)) :=
 (Vm.impl_Repo_are x0 ([x1] : List Int)).bind fun z9 =>
 bif (!z9) then
 (some ([] : List Int))
 else
 ((Vm.impl_Repo_blame x0 x1 x2).bind fun z18 =>
 some z18.1)
def spec_l11Of_l2 (z69 : (List Int)) (z77 : (List Int)) (K88 : Int → List Int → Option ((List Int))) : Nat → Int → List Int → Option ((List Int))
 | 0, _, _ => none
 | m + 1, y84, y85 =>
 bif decide ((y84 : Int) < ((z77.length : Int) : Int)) then
 (jn (fun (y95 : List Int) =>
 spec_l11Of_l2 z69 z77 K88 m (w64 (y84 + 1)) y95) fun K98 =>
 (gi z77 y84).bind fun u103 =>
 bif decide ((0 : Int) ≤ (u103 : Int)) then
 ((gi z77 y84).bind fun u112 =>
 (gi z69 y84).bind fun u114 =>
 (gi y85 u112).bind fun u116 =>
 (siM y85 u112 u114).bind fun q119 =>
 K98 q119)
 else
 (K98 y85))
 else
 (K88 y84 y85)
def spec_l11Of_l1 (x1 : Int) (z9 : (List Str) × Bool) (K24 : List Int → Int → Option ((List Int))) : Nat → List Int → Int → Option ((List Int))
 | 0, _, _ => none
 | m + 1, y19, y22 =>
 bif decide ((y22 : Int) < ((z9.1.length : Int) : Int)) then
 ((apM y19 [x1]).bind fun q34 =>
 spec_l11Of_l1 x1 z9 K24 m q34 (w64 (y22 + 1)))
 else
 (K24 y19 y22)
def spec_l11Of_r : Nat → Vm.Repo → Int → Str → Option ((List Int))
 | 0, _, _, _ => none
 | m + 1, x0, x1, x2 =>
 (gi x0.Commits x1).bind fun u3 =>
 (Vm.spec_l4Get u3.Tree x2).bind fun z9 =>
 bif (!z9.2) then
 (some ([] : List Int))
 else
 (jn (fun (y19 : List Int) (y22 : Int) =>
 (gi x0.Commits x1).bind fun u40 =>
 bif (((u40.Parents.length : Int) : Int) == (0 : Int)) then
 (some y19)
 else
 ((gi x0.Commits x1).bind fun u47 =>
 (gi u47.Parents 0).bind fun u52 =>
 (gi x0.Commits u52).bind fun u54 =>
 (Vm.spec_l4Get u54.Tree x2).bind fun z59 =>
 bif (!z59.2) then
 (some y19)
 else
 ((Vm.spec_l11Of_r m x0 u52 x2).bind fun z69 =>
 (Vm.spec_l1Match z59.1 z9.1).bind fun z77 =>
 jn (fun (y84 : Int) (y85 : List Int) =>
 some y85) fun K88 =>
 spec_l11Of_l2 z69 z77 K88 (((z77.length : Int) - 0).toNat + 1) 0 y19))) fun K24 =>
 spec_l11Of_l1 x1 z9 K24 (((z9.1.length : Int) - 0).toNat + 1) ([] : List Int) 0)
def spec_l11Of (x0 : Vm.Repo) (x1 : Int) (x2 : Str) : Option ((List Int)) :=
 spec_l11Of_r (x1.toNat + 2) x0 x1 x2
def spec_BlameOf (x0 : Vm.Repo) (x1 : Int) (x2 : Str) : Option ((List Int)) :=
 jn (fun (y3 : Bool) =>
 bif y3 then
 (some ([] : List Int))
 else
 ((Vm.spec_l11Of x0 x1 x2).bind fun z11 =>
 some z11)) fun K5 =>
 (Vm.spec_l7Ok x0).bind fun z18 =>
 bif (!z18) then
 (K5 true)
 else
 ((Vm.spec_l1In x1 0 (w64 ((x0.Commits.length : Int) - 1))).bind fun z25 =>
 K5 (!z25))
end Go.Vm
