/- Models of the functions: plain Lean, printed by a program of ours. Conditions: none. -/
import Derived.Test.YtidkloialdageaaGreatDoorCLw
import Derived.Test.YtidkloialdageaaGreatDoorCM0
namespace Go.Vm
open Go Go.Sx
set_option linter.unusedVariables false
set_option linter.unusedSimpArgs false
def spec_l30Tree_l1 (x0 : Vm.l30Rd) (K19 : List Vm.File → Int → Int → Option ((List Vm.File) × Int)) : Nat → List Vm.File → Int → Int → Option ((List Vm.File) × Int)
 | 0, _, _, _ => none
 | m + 1, y10, y13, y16 =>
 bif decide ((0 : Int) < (y13 : Int)) then
 ((Vm.spec_l30Path (Vm.l30Rd.mk x0.b y16)).bind fun z27 =>
 (Vm.spec_l30Text (Vm.l30Rd.mk x0.b z27.2)).bind fun z33 =>
 (Vm.spec_TreeSet y10 (Vm.File.mk z27.1 z33.1)).bind fun z39 =>
 spec_l30Tree_l1 x0 K19 m z39.1 (w64 (y13 - 1)) z33.2)
 else
 (K19 y10 y13 y16)
def spec_l30Tree (x0 : Vm.l30Rd) : Option ((List Vm.File) × Int) :=
 (Vm.spec_l30Rd_pick x0 6).bind fun z5 =>
 jn (fun (y10 : List Vm.File) (y13 : Int) (y16 : Int) =>
 (Vm.spec_l4Copy y10).bind fun z62 =>
 some (z62, y16)) fun K19 =>
 spec_l30Tree_l1 x0 K19 ((z5.1 - 0).toNat + 1) ([] : List File) z5.1 z5.2
def spec_l30AnyPath (x0 : Vm.l30Rd) : Option (Str × Int) :=
 (Vm.spec_l30Rd_pick x0 6).bind fun z1 =>
 bif ((z1.1 : Int) == (0 : Int)) then
 ((Vm.spec_l30Rd_of (Vm.l30Rd.mk x0.b z1.2) ([([] : Str), ([100] : Str), ([103] : Str), ([65] : Str), ([97, 47] : Str), ([97, 47, 98, 47, 99, 47, 100] : Str), ([116, 111, 111, 108, 111, 110, 103] : Str), ([103, 47, 104] : Str), ([100, 47, 101, 47, 102] : Str)] : List Str)).bind fun z10 =>
 some (z10.1, z10.2))
 else
 ((Vm.spec_l30Path (Vm.l30Rd.mk x0.b z1.2)).bind fun z16 =>
 some (z16.1, z16.2))
def spec_l30AnyText (x0 : Vm.l30Rd) : Option ((List Str) × Int) :=
 (Vm.spec_l30Text x0).bind fun z1 =>
 (Vm.spec_l30Rd_pick (Vm.l30Rd.mk x0.b z1.2) 16).bind fun z6 =>
 bif ((z6.1 : Int) == (0 : Int)) then
 ((Vm.spec_l30Rd_of (Vm.l30Rd.mk x0.b z6.2) ([([97, 32, 108, 105, 110, 101, 32, 116, 111, 111, 32, 108, 111, 110, 103] : Str), ([120, 10, 121] : Str), ([255] : Str)] : List Str)).bind fun z17 =>
 (apM z1.1 [z17.1]).bind fun q28 =>
 some (q28, z17.2))
 else
 (bif ((z6.1 : Int) == (1 : Int)) then
 ((apM z1.1 ([([49] : Str), ([50] : Str), ([51] : Str), ([52] : Str), ([53] : Str), ([54] : Str), ([55] : Str), ([56] : Str), ([57] : Str), ([49, 48] : Str)] : List Str)).bind fun q45 =>
 some (q45, z6.2))
 else
 (some (z1.1, z6.2)))
def spec_l30AnyTree (x0 : Vm.l30Rd) : Option ((List Vm.File) × Int) :=
 (Vm.spec_l30Tree x0).bind fun z1 =>
 jn (fun (y5 : List Vm.File) (y9 : Int) (y11 : List Vm.File) =>
 some (y11, y9)) fun K14 =>
 bif decide ((0 : Int) < ((z1.1.length : Int) : Int)) then
 ((Vm.spec_l30Rd_pick (Vm.l30Rd.mk x0.b z1.2) (z1.1.length : Int)).bind fun z26 =>
 (Vm.spec_l30Rd_pick (Vm.l30Rd.mk x0.b z26.2) 14).bind fun z32 =>
 bif ((z32.1 : Int) == (0 : Int)) then
 ((Vm.spec_l30AnyPath (Vm.l30Rd.mk x0.b z32.2)).bind fun z39 =>
 (gi z1.1 z26.1).bind fun u44 =>
 (siM z1.1 z26.1 (Vm.File.mk z39.1 u44.Text)).bind fun q47 =>
 K14 ([] : List File) z39.2 q47)
 else
 (bif ((z32.1 : Int) == (1 : Int)) then
 ((Vm.spec_l30AnyText (Vm.l30Rd.mk x0.b z32.2)).bind fun z53 =>
 (gi z1.1 z26.1).bind fun u58 =>
 (siM z1.1 z26.1 (Vm.File.mk u58.Path z53.1)).bind fun q61 =>
 K14 ([] : List File) z53.2 q61)
 else
 (bif ((z32.1 : Int) == (2 : Int)) then
 ((gi z1.1 z26.1).bind fun u66 =>
 (apM z1.1 [u66]).bind fun q81 =>
 some (q81, z32.2))
 else
 (K14 ([] : List File) z32.2 z1.1))))
 else
 (K14 ([] : List File) z1.2 z1.1)
def spec_DrawRepoCommit (x0 : List Byte) : Option (Vm.Repo × Str × Str × (List Vm.File)) :=
 (Vm.spec_l30Open x0).bind fun z4 =>
 (Vm.spec_l30AnyRepo z4).bind fun z10 =>
 (Vm.spec_l30Rd_of (Vm.l30Rd.mk z4.b z10.2) ([([109, 97, 105, 110] : Str), ([115, 105, 100, 101] : Str), ([110, 101, 119] : Str), ([66, 97, 100] : Str)] : List Str)).bind fun z42 =>
 (Vm.spec_l30Rd_of (Vm.l30Rd.mk z4.b z42.2) ([([97, 110, 110] : Str), ([98, 111, 98] : Str), ([] : Str)] : List Str)).bind fun z60 =>
 (Vm.spec_l30AnyTree (Vm.l30Rd.mk z4.b z60.2)).bind fun z71 =>
 some (Vm.Repo.mk z10.1.Commits z10.1.Heads, z42.1, z60.1, z71.1)
def impl_Repo_at_l1 (x0 : Vm.Repo) (x1 : Str) (K8 : Int → Int → Option (Int)) : Nat → Int → Int → Option (Int)
 | 0, _, _ => none
 | m + 1, y4, y6 =>
 bif decide ((y6 : Int) < ((x0.Heads.length : Int) : Int)) then
 ((gi x0.Heads y6).bind fun u13 =>
 bif (u13.Name == x1) then
 (some u13.At)
 else
 (impl_Repo_at_l1 x0 x1 K8 m y4 (w64 (y6 + 1))))
 else
 (K8 y4 y6)
def impl_Repo_at (x0 : Vm.Repo) (x1 : Str) : Option (Int) :=
 jn (fun (y4 : Int) (y6 : Int) =>
 some (-1)) fun K8 =>
 impl_Repo_at_l1 x0 x1 K8 (((x0.Heads.length : Int) - 0).toNat + 1) 0 0
def impl_copyTree_l1 (x0 : List Vm.File) (K7 : List Vm.File → Int → Option ((List Vm.File))) : Nat → List Vm.File → Int → Option ((List Vm.File))
 | 0, _, _ => none
 | m + 1, y1, y5 =>
 bif decide ((y5 : Int) < ((x0.length : Int) : Int)) then
 ((gi x0 y5).bind fun u11 =>
 (Vm.impl_copyText u11.Text).bind fun z30 =>
 (apM y1 [Vm.File.mk u11.Path z30]).bind fun q41 =>
 impl_copyTree_l1 x0 K7 m q41 (w64 (y5 + 1)))
 else
 (K7 y1 y5)
def impl_copyTree (x0 : List Vm.File) : Option ((List Vm.File)) :=
 jn (fun (y1 : List Vm.File) (y5 : Int) =>
 some y1) fun K7 =>
 impl_copyTree_l1 x0 K7 (((x0.length : Int) - 0).toNat + 1) ([] : List File) 0
def impl_Repo_own_l1 (x0 : Vm.Repo) (K38 : Int → List Vm.Commit → List Vm.Head → Option (Vm.Repo)) : Nat → Int → List Vm.Commit → List Vm.Head → Option (Vm.Repo)
 | 0, _, _, _ => none
 | m + 1, y29, y30, y33 =>
 bif decide ((y29 : Int) < ((x0.Commits.length : Int) : Int)) then
 ((gi x0.Commits y29).bind fun u44 =>
 (apM ([] : List Int) u44.Parents).bind fun q84 =>
 (Vm.impl_copyTree u44.Tree).bind fun z96 =>
 (apM y30 [Vm.Commit.mk q84 u44.Who z96]).bind fun q117 =>
 impl_Repo_own_l1 x0 K38 m (w64 (y29 + 1)) q117 y33)
 else
 (K38 y29 y30 y33)
def impl_Repo_own (x0 : Vm.Repo) : Option (Vm.Repo) :=
 (apM ([] : List Head) x0.Heads).bind fun q10 =>
 jn (fun (y29 : Int) (y30 : List Vm.Commit) (y33 : List Vm.Head) =>
 some (Vm.Repo.mk y30 y33)) fun K38 =>
 impl_Repo_own_l1 x0 K38 (((x0.Commits.length : Int) - 0).toNat + 1) 0 ([] : List Commit) q10
def slices_Insert_impl_Head_impl_Head (x0 : List Vm.Head) (x1 : Int) (x2 : Vm.Head) : Option ((List Vm.Head)) :=
 if 0 ≤ x1 ∧ x1 ≤ x0.length ∧ x0.length + 1 ≤ lim then some (x0.take x1.toNat ++ [x2] ++ x0.drop x1.toNat) else none
def impl_insertHead_l1 (x0 : List Vm.Head) (x1 : Vm.Head) (K6 : Int → Option ((List Vm.Head))) : Nat → Int → Option ((List Vm.Head))
 | 0, _ => none
 | m + 1, y4 =>
 jn (fun (y10 : Bool) =>
 bif y10 then
 (impl_insertHead_l1 x0 x1 K6 m (w64 (y4 - 1)))
 else
 (K6 y4)) fun K12 =>
 bif decide ((0 : Int) < (y4 : Int)) then
 ((gi x0 (w64 (y4 - 1))).bind fun u92 =>
 K12 (!(Op.bytesLess u92.Name x1.Name || u92.Name == x1.Name)))
 else
 (K12 false)
def impl_insertHead (x0 : List Vm.Head) (x1 : Vm.Head) : Option ((List Vm.Head)) :=
 jn (fun (y4 : Int) =>
 (apM ([] : List Head) x0).bind fun q22 =>
 (Vm.slices_Insert_impl_Head_impl_Head q22 y4 x1).bind fun z32 =>
 some z32) fun K6 =>
 impl_insertHead_l1 x0 x1 K6 (x0.length + 1) (x0.length : Int)
def impl_Repo_point_l1 (x0 : Vm.Repo) (x1 : Str) (x2 : Int) (K22 : Int → List Vm.Commit → List Vm.Head → List Vm.Head → Option (Vm.Repo)) : Nat → Int → List Vm.Commit → List Vm.Head → List Vm.Head → Option (Vm.Repo)
 | 0, _, _, _, _ => none
 | m + 1, y11, y12, y15, y19 =>
 bif decide ((y11 : Int) < ((x0.Heads.length : Int) : Int)) then
 ((gi y19 y11).bind fun u28 =>
 bif (u28.Name == x1) then
 ((gi y19 y11).bind fun u31 =>
 (siM y19 y11 (Vm.Head.mk u31.Name x2)).bind fun q34 =>
 some (Vm.Repo.mk x0.Commits q34))
 else
 (impl_Repo_point_l1 x0 x1 x2 K22 m (w64 (y11 + 1)) y12 y15 y19))
 else
 (K22 y11 y12 y15 y19)
def impl_Repo_point (x0 : Vm.Repo) (x1 : Str) (x2 : Int) : Option (Vm.Repo) :=
 jn (fun (y11 : Int) (y12 : List Vm.Commit) (y15 : List Vm.Head) (y19 : List Vm.Head) =>
 (Vm.impl_insertHead y19 (Vm.Head.mk x1 x2)).bind fun z63 =>
 some (Vm.Repo.mk x0.Commits z63)) fun K22 =>
 impl_Repo_point_l1 x0 x1 x2 K22 (((x0.Heads.length : Int) - 0).toNat + 1) 0 ([] : List Commit) ([] : List Head) x0.Heads
def impl_Repo_commit (x0 : Vm.Repo) (x1 : Str) (x2 : Str) (x3 : List Vm.File) (x4 : List Int) : Option (Vm.Repo) :=
 (Vm.impl_copyTree x3).bind fun z20 =>
 (apM x0.Commits [Vm.Commit.mk x4 x2 z20]).bind fun q37 =>
 (Vm.impl_Repo_point (Vm.Repo.mk q37 x0.Heads) x1 (w64 ((q37.length : Int) - 1))).bind fun z51 =>
 some (Vm.Repo.mk z51.Commits z51.Heads)
def impl_Repo_tried (x0 : Vm.Repo) (x1 : Vm.Repo) : Option (Vm.Repo × Bool) :=
 (Vm.impl_RepoOk (Vm.Repo.mk x1.Commits x1.Heads)).bind fun z17 =>
 bif (!z17) then
 ((Vm.impl_Repo_own x0).bind fun z29 =>
 some (Vm.Repo.mk z29.Commits z29.Heads, false))
 else
 (some (Vm.Repo.mk x1.Commits x1.Heads, true))
def impl_RepoCommit (x0 : Vm.Repo) (x1 : Str) (x2 : Str) (x3 : List Vm.File) : Option (Vm.Repo × Bool) :=
 (Vm.impl_RepoOk x0).bind fun z9 =>
 bif (!z9) then
 (some (Vm.Repo.mk ([] : List Commit) ([] : List Head), false))
 else
 (jn (fun (y19 : List Int) =>
 (Vm.impl_Repo_own x0).bind fun z35 =>
 (Vm.impl_Repo_commit (Vm.Repo.mk z35.Commits z35.Heads) x1 x2 x3 y19).bind fun z43 =>
 (Vm.impl_Repo_tried x0 (Vm.Repo.mk z43.Commits z43.Heads)).bind fun z52 =>
 some (Vm.Repo.mk z52.1.Commits z52.1.Heads, z52.2)) fun K24 =>
 (Vm.impl_Repo_at x0 x1).bind fun z75 =>
 bif decide ((0 : Int) ≤ (z75 : Int)) then
 ((apM ([] : List Int) [z75]).bind fun q86 =>
 K24 q86)
 else
 (K24 ([] : List Int)))
def laws_smTexts_l1 (x0 : List Str) (x1 : List Str) (K5 : Bool → Int → Option (Bool)) : Nat → Bool → Int → Option (Bool)
 | 0, _, _ => none
 | m + 1, y2, y3 =>
 bif decide ((y3 : Int) < ((x0.length : Int) : Int)) then
 ((gi x0 y3).bind fun u12 =>
 (gi x1 y3).bind fun u15 =>
 bif (u12 != u15) then
 (some false)
 else
 (laws_smTexts_l1 x0 x1 K5 m y2 (w64 (y3 + 1))))
 else
 (K5 y2 y3)
def laws_smTexts (x0 : List Str) (x1 : List Str) : Option (Bool) :=
 bif (((x0.length : Int) : Int) != ((x1.length : Int) : Int)) then
 (some false)
 else
 (jn (fun (y2 : Bool) (y3 : Int) =>
 some true) fun K5 =>
 laws_smTexts_l1 x0 x1 K5 (((x0.length : Int) - 0).toNat + 1) false 0)
def laws_smTree_l1 (x0 : List Vm.File) (x1 : List Vm.File) (K5 : Bool → Int → Option (Bool)) : Nat → Bool → Int → Option (Bool)
 | 0, _, _ => none
 | m + 1, y2, y3 =>
 bif decide ((y3 : Int) < ((x0.length : Int) : Int)) then
 (jn (fun (y10 : Bool) =>
 bif y10 then
 (some false)
 else
 (laws_smTree_l1 x0 x1 K5 m y2 (w64 (y3 + 1)))) fun K12 =>
 (gi x0 y3).bind fun u17 =>
 (gi x1 y3).bind fun u20 =>
 bif (u17.Path != u20.Path) then
 (K12 true)
 else
 ((gi x0 y3).bind fun u24 =>
 (gi x1 y3).bind fun u29 =>
 (Vm.laws_smTexts u24.Text u29.Text).bind fun z34 =>
 K12 (!z34)))
 else
 (K5 y2 y3)
def laws_smTree (x0 : List Vm.File) (x1 : List Vm.File) : Option (Bool) :=
 bif (((x0.length : Int) : Int) != ((x1.length : Int) : Int)) then
 (some false)
 else
 (jn (fun (y2 : Bool) (y3 : Int) =>
 some true) fun K5 =>
 laws_smTree_l1 x0 x1 K5 (((x0.length : Int) - 0).toNat + 1) false 0)
def laws_smCommit (x0 : Vm.Commit) (x1 : Vm.Commit) : Option (Bool) :=
 jn (fun (y6 : Bool) =>
 some y6) fun K8 =>
 bif (x0.Who == x1.Who) then
 ((Vm.laws_smInts x0.Parents x1.Parents).bind fun z15 =>
 bif z15 then
 ((Vm.laws_smTree x0.Tree x1.Tree).bind fun z24 =>
 K8 z24)
 else
 (K8 false))
 else
 (K8 false)
def laws_smRepo_l2 (x0 : Vm.Repo) (x1 : Vm.Repo) (K57 : Bool → Int → Option (Bool)) : Nat → Bool → Int → Option (Bool)
 | 0, _, _ => none
 | m + 1, y54, y55 =>
 bif decide ((y55 : Int) < ((x0.Heads.length : Int) : Int)) then
 ((gi x0.Heads y55).bind fun u68 =>
 (gi x1.Heads y55).bind fun u74 =>
 bif (!(u68.Name == u74.Name && u68.At == u74.At)) then
 (some false)
 else
 (laws_smRepo_l2 x0 x1 K57 m y54 (w64 (y55 + 1))))
 else
 (K57 y54 y55)
def laws_smRepo_l1 (x0 : Vm.Repo) (x1 : Vm.Repo) (K16 : Bool → Int → Option (Bool)) : Nat → Bool → Int → Option (Bool)
 | 0, _, _ => none
 | m + 1, y13, y14 =>
 bif decide ((y14 : Int) < ((x0.Commits.length : Int) : Int)) then
 ((gi x0.Commits y14).bind fun u27 =>
 (gi x1.Commits y14).bind fun u37 =>
 (Vm.laws_smCommit u27 u37).bind fun z47 =>
 bif (!z47) then
 (some false)
 else
 (laws_smRepo_l1 x0 x1 K16 m y13 (w64 (y14 + 1))))
 else
 (K16 y13 y14)
def laws_smRepo (x0 : Vm.Repo) (x1 : Vm.Repo) : Option (Bool) :=
 jn (fun (y6 : Bool) =>
 bif y6 then
 (some false)
 else
 (jn (fun (y13 : Bool) (y14 : Int) =>
 jn (fun (y54 : Bool) (y55 : Int) =>
 some true) fun K57 =>
 laws_smRepo_l2 x0 x1 K57 (((x0.Heads.length : Int) - 0).toNat + 1) y13 0) fun K16 =>
 laws_smRepo_l1 x0 x1 K16 (((x0.Commits.length : Int) - 0).toNat + 1) false 0)) fun K8 =>
 bif (((x0.Commits.length : Int) : Int) != ((x1.Commits.length : Int) : Int)) then
 (K8 true)
 else
 (K8 (((x0.Heads.length : Int) : Int) != ((x1.Heads.length : Int) : Int)))
def spec_RepoOk (x0 : Vm.Repo) : Option (Bool) :=
 (Vm.spec_l7Ok x0).bind fun z5 =>
 some z5
def impl_RepoAt (x0 : Vm.Repo) (x1 : Str) : Option (Int) :=
 (Vm.impl_RepoOk x0).bind fun z6 =>
 bif (!z6) then
 (some (-1))
 else
 ((Vm.impl_Repo_at x0 x1).bind fun z14 =>
 some z14)
def impl_RepoTree (x0 : Vm.Repo) (x1 : Int) : Option ((List Vm.File) × Bool) :=
 jn (fun (y3 : Bool) =>
 bif y3 then
 (some (([] : List File), false))
 else
 ((Vm.impl_Repo_tree x0 x1).bind fun z11 =>
 (Vm.impl_copyTree z11).bind fun z17 =>
 some (z17, true))) fun K5 =>
 (Vm.impl_RepoOk x0).bind fun z25 =>
 bif (!z25) then
 (K5 true)
 else
 ((Vm.impl_Repo_exists x0 x1).bind fun z33 =>
 K5 (!z33))
def laws_smKeeps_l1 (x0 : Vm.Repo) (x1 : Vm.Repo) (K12 : Bool → Int → Option (Bool)) : Nat → Bool → Int → Option (Bool)
 | 0, _, _ => none
 | m + 1, y9, y10 =>
 bif decide ((y10 : Int) < ((x1.Commits.length : Int) : Int)) then
 ((gi x0.Commits y10).bind fun u23 =>
 (gi x1.Commits y10).bind fun u33 =>
 (Vm.laws_smCommit u23 u33).bind fun z43 =>
 bif (!z43) then
 (some false)
 else
 (laws_smKeeps_l1 x0 x1 K12 m y9 (w64 (y10 + 1))))
 else
 (K12 y9 y10)
def laws_smKeeps (x0 : Vm.Repo) (x1 : Vm.Repo) : Option (Bool) :=
 bif decide (((x0.Commits.length : Int) : Int) < ((x1.Commits.length : Int) : Int)) then
 (some false)
 else
 (jn (fun (y9 : Bool) (y10 : Int) =>
 some true) fun K12 =>
 laws_smKeeps_l1 x0 x1 K12 (((x1.Commits.length : Int) - 0).toNat + 1) false 0)
def laws_FnRepoCommit_l1 (z2 : Vm.Repo × Str × Str × (List Vm.File)) (z19 : Vm.Repo × Bool) (K207 : Bool → Int → Option (Bool)) : Nat → Bool → Int → Option (Bool)
 | 0, _, _ => none
 | m + 1, y204, y205 =>
 bif decide ((y205 : Int) < ((z2.1.Heads.length : Int) : Int)) then
 (jn (fun (y220 : Bool) =>
 bif y220 then
 (some false)
 else
 (laws_FnRepoCommit_l1 z2 z19 K207 m y204 (w64 (y205 + 1)))) fun K222 =>
 (gi z2.1.Heads y205).bind fun u245 =>
 bif (u245.Name != z2.2.1) then
 ((gi z2.1.Heads y205).bind fun u248 =>
 (gi z2.1.Heads y205).bind fun u250 =>
 (Vm.impl_RepoAt (Vm.Repo.mk z19.1.Commits z19.1.Heads) u248.Name).bind fun z253 =>
 K222 ((z253 : Int) != (u250.At : Int)))
 else
 (K222 false))
 else
 (K207 y204 y205)
def laws_FnRepoCommit (x0 : List Byte) : Option (Bool) :=
 bif decide ((1048576 : Int) < ((x0.length : Int) : Int)) then
 (some true)
 else
 ((Vm.spec_DrawRepoCommit x0).bind fun z2 =>
 (Vm.impl_RepoCommit (Vm.Repo.mk z2.1.Commits z2.1.Heads) z2.2.1 z2.2.2.1 z2.2.2.2).bind fun z19 =>
 (Vm.spec_RepoCommit (Vm.Repo.mk z2.1.Commits z2.1.Heads) z2.2.1 z2.2.2.1 z2.2.2.2).bind fun z44 =>
 jn (fun (y75 : Bool) =>
 bif y75 then
 (jn (fun (y88 : Bool) =>
 some y88) fun K90 =>
 bif (z19.2 == z44.2) then
 ((Vm.laws_smRepo (Vm.Repo.mk z19.1.Commits z19.1.Heads) z44.1).bind fun z113 =>
 bif z113 then
 ((Vm.impl_RepoOk (Vm.Repo.mk z2.1.Commits z2.1.Heads)).bind fun z127 =>
 (Vm.spec_RepoOk (Vm.Repo.mk z2.1.Commits z2.1.Heads)).bind fun z139 =>
 K90 (z127 == z139))
 else
 (K90 false))
 else
 (K90 false))
 else
 (bif (!z19.2) then
 ((Vm.laws_smRepo (Vm.Repo.mk z19.1.Commits z19.1.Heads) (Vm.Repo.mk z2.1.Commits z2.1.Heads)).bind fun z152 =>
 some z152)
 else
 ((Vm.impl_RepoAt (Vm.Repo.mk z19.1.Commits z19.1.Heads) z2.2.1).bind fun z165 =>
 (Vm.impl_RepoTree (Vm.Repo.mk z19.1.Commits z19.1.Heads) z165).bind fun z178 =>
 (Vm.impl_RepoAt (Vm.Repo.mk z2.1.Commits z2.1.Heads) z2.2.1).bind fun z191 =>
 jn (fun (y204 : Bool) (y205 : Int) =>
 jn (fun (y266 : Bool) =>
 some y266) fun K268 =>
 (Vm.impl_RepoOk (Vm.Repo.mk z19.1.Commits z19.1.Heads)).bind fun z280 =>
 bif z280 then
 ((Vm.laws_smKeeps (Vm.Repo.mk z19.1.Commits z19.1.Heads) (Vm.Repo.mk z2.1.Commits z2.1.Heads)).bind fun z294 =>
 bif z294 then
 (bif ((z165 : Int) == ((z2.1.Commits.length : Int) : Int)) then
 (bif z178.2 then
 ((Vm.laws_smTree z178.1 z2.2.2.2).bind fun z311 =>
 bif z311 then
 (bif decide ((z191 : Int) < (0 : Int)) then
 ((gi z19.1.Commits z165).bind fun u326 =>
 bif (((u326.Parents.length : Int) : Int) == (0 : Int)) then
 (K268 true)
 else
 (bif decide ((0 : Int) ≤ (z191 : Int)) then
 ((gi z19.1.Commits z165).bind fun u333 =>
 (Vm.laws_smInts u333.Parents ([z191] : List Int)).bind fun z350 =>
 K268 z350)
 else
 (K268 false)))
 else
 (bif decide ((0 : Int) ≤ (z191 : Int)) then
 ((gi z19.1.Commits z165).bind fun u365 =>
 (Vm.laws_smInts u365.Parents ([z191] : List Int)).bind fun z382 =>
 K268 z382)
 else
 (K268 false)))
 else
 (K268 false))
 else
 (K268 false))
 else
 (K268 false))
 else
 (K268 false))
 else
 (K268 false)) fun K207 =>
 laws_FnRepoCommit_l1 z2 z19 K207 (((z2.1.Heads.length : Int) - 0).toNat + 1) false 0))) fun K77 =>
 bif (z19.2 != z44.2) then
 (K77 true)
 else
 ((Vm.laws_smRepo (Vm.Repo.mk z19.1.Commits z19.1.Heads) z44.1).bind fun z409 =>
 bif (!z409) then
 (K77 true)
 else
 ((Vm.impl_RepoOk (Vm.Repo.mk z2.1.Commits z2.1.Heads)).bind fun z423 =>
 (Vm.spec_RepoOk (Vm.Repo.mk z2.1.Commits z2.1.Heads)).bind fun z435 =>
 bif (z423 != z435) then
 (K77 true)
 else
 ((Vm.impl_RepoOk (Vm.Repo.mk z2.1.Commits z2.1.Heads)).bind fun z449 =>
 K77 (!z449)))))
end Go.Vm
