/- Models of the functions: plain Lean, printed by a program of ours. Conditions: none. -/
import Derived.Test.YtkfeiopifiejgaaGreatDoorXLw
import Derived.Test.YtkfeiopifiejgaaGreatDoorXM0
import Derived.Test.YtkfeiopifiejgaaGreatDoorXM1
import Derived.Test.YtkfeiopifiejgaaGreatDoorXM3
import Derived.Test.YtkfeiopifiejgaaGreatDoorXM4
import Derived.Test.YtkfeiopifiejgaaGreatDoorXM5
namespace Go.Vm
open Go Go.Sx
set_option linter.unusedVariables false
set_option linter.unusedSimpArgs false

def spec_RepoDrop_l1 (x0 : Vm.Repo) (x1 : Str) (K61 : Int → List Vm.Commit → List Vm.Head → Option (Vm.Repo × Bool)) : Nat → Int → List Vm.Commit → List Vm.Head → Option (Vm.Repo × Bool)
  | 0, _, _, _ => none
  | m + 1, y52, y53, y56 =>
    bif decide ((y52 : Int) < ((x0.Heads.length : Int) : Int)) then
      (jn (fun (y70 : List Vm.Commit) (y73 : List Vm.Head) =>
        spec_RepoDrop_l1 x0 x1 K61 m (w64 (y52 + 1)) y70 y73) fun K78 =>
      (gi x0.Heads y52).bind fun u84 =>
      bif (u84.Name != x1) then
        ((gi x0.Heads y52).bind fun u96 =>
        (apM y56 [u96]).bind fun q111 =>
        K78 y53 q111)
      else
        (K78 y53 y56))
    else
      (K61 y52 y53 y56)

def spec_RepoDrop (x0 : Vm.Repo) (x1 : Str) : Option (Vm.Repo × Bool) :=
  (Vm.spec_l7Ok x0).bind fun z8 =>
  bif (!z8) then
    (some (Vm.Repo.mk ([] : List Commit) ([] : List Head), false))
  else
    ((Vm.spec_l7Copy x0).bind fun z20 =>
    jn (fun (y52 : Int) (y53 : List Vm.Commit) (y56 : List Vm.Head) =>
      some (Vm.Repo.mk y53 y56, decide (((y56.length : Int) : Int) < ((x0.Heads.length : Int) : Int)))) fun K61 =>
    spec_RepoDrop_l1 x0 x1 K61 (((x0.Heads.length : Int) - 0).toNat + 1) 0 z20.Commits ([] : List Head))

def spec_l30Loose_l1 (x0 : Vm.l30Rd) (K44 : Int → Int → List Vm.Commit → List Vm.Head → Option (Vm.Repo × Int)) : Nat → Int → Int → List Vm.Commit → List Vm.Head → Option (Vm.Repo × Int)
  | 0, _, _, _, _ => none
  | m + 1, y31, y34, y36, y39 =>
    bif decide ((0 : Int) < (y31 : Int)) then
      (jn (fun (y51 : Int) (y53 : List Vm.Commit) (y56 : List Vm.Head) =>
        spec_l30Loose_l1 x0 K44 m (w64 (y31 - 1)) y51 y53 y56) fun K61 =>
      (Vm.spec_l30Branch (Vm.l30Rd.mk x0.b y34)).bind fun z72 =>
      (Vm.spec_RepoDrop (Vm.Repo.mk y36 y39) z72.1).bind fun z80 =>
      jn (fun (y224 : Bool) =>
        bif y224 then
          (K61 z72.2 z80.1.Commits z80.1.Heads)
        else
          (K61 z72.2 y36 y39)) fun K226 =>
      (Vm.spec_l7Ok (Vm.Repo.mk z80.1.Commits z80.1.Heads)).bind fun z261 =>
      bif z261 then
        ((Vm.spec_l7Ok (Vm.Repo.mk y36 y39)).bind fun z274 =>
        K226 z274)
      else
        (K226 false))
    else
      (K44 y31 y34 y36 y39)

def spec_l30Loose (x0 : Vm.l30Rd) : Option (Vm.Repo × Int) :=
  (Vm.spec_l30AnyRepo x0).bind fun z5 =>
  (Vm.spec_l30Rd_pick (Vm.l30Rd.mk x0.b z5.2) 3).bind fun z23 =>
  jn (fun (y31 : Int) (y34 : Int) (y36 : List Vm.Commit) (y39 : List Vm.Head) =>
    some (Vm.Repo.mk y36 y39, y34)) fun K44 =>
  spec_l30Loose_l1 x0 K44 ((z23.1 - 0).toNat + 1) z23.1 z23.2 z5.1.Commits z5.1.Heads

def spec_DrawKeepLive (x0 : List Byte) : Option (Vm.Repo) :=
  (Vm.spec_l30Open x0).bind fun z4 =>
  (Vm.spec_l30Loose z4).bind fun z10 =>
  some (Vm.Repo.mk z10.1.Commits z10.1.Heads)

def impl_Repo_live_l2 (z44 : (List Int)) (K57 : Int → List Bool → Option ((List Bool))) : Nat → Int → List Bool → Option ((List Bool))
  | 0, _, _ => none
  | m + 1, y53, y54 =>
    bif decide ((y53 : Int) < ((z44.length : Int) : Int)) then
      ((gi z44 y53).bind fun u65 =>
      (gi y54 u65).bind fun u67 =>
      (siM y54 u65 true).bind fun q70 =>
      impl_Repo_live_l2 z44 K57 m (w64 (y53 + 1)) q70)
    else
      (K57 y53 y54)

def impl_Repo_live_l1 (x0 : Vm.Repo) (K16 : Int → List Bool → Option ((List Bool))) : Nat → Int → List Bool → Option ((List Bool))
  | 0, _, _ => none
  | m + 1, y12, y13 =>
    bif decide ((y12 : Int) < ((x0.Heads.length : Int) : Int)) then
      ((gi x0.Heads y12).bind fun u21 =>
      (Vm.impl_Repo_ancestors x0 u21.At).bind fun z37 =>
      (Vm.impl_listOf z37).bind fun z44 =>
      jn (fun (y53 : Int) (y54 : List Bool) =>
        impl_Repo_live_l1 x0 K16 m (w64 (y12 + 1)) y54) fun K57 =>
      impl_Repo_live_l2 z44 K57 (((z44.length : Int) - 0).toNat + 1) 0 y13)
    else
      (K16 y12 y13)

def impl_Repo_live (x0 : Vm.Repo) : Option ((List Bool)) :=
  (mkM (x0.Commits.length : Int) (false : Bool)).bind fun q4 =>
  jn (fun (y12 : Int) (y13 : List Bool) =>
    some y13) fun K16 =>
  impl_Repo_live_l1 x0 K16 (((x0.Heads.length : Int) - 0).toNat + 1) 0 q4

def impl_KeepLive (x0 : Vm.Repo) : Option ((List Int)) :=
  (Vm.impl_RepoOk x0).bind fun z6 =>
  bif (!z6) then
    (some ([] : List Int))
  else
    ((Vm.impl_Repo_live x0).bind fun z14 =>
    (Vm.impl_listOf z14).bind fun z19 =>
    some z19)

def spec_l14Live_l2 (z29 : (List Int)) (K39 : Int → List Bool → Option ((List Int))) : Nat → Int → List Bool → Option ((List Int))
  | 0, _, _ => none
  | m + 1, y35, y36 =>
    bif decide ((y35 : Int) < ((z29.length : Int) : Int)) then
      ((gi z29 y35).bind fun u45 =>
      (gi y36 u45).bind fun u47 =>
      (siM y36 u45 true).bind fun q50 =>
      spec_l14Live_l2 z29 K39 m (w64 (y35 + 1)) q50)
    else
      (K39 y35 y36)

def spec_l14Live_l3 (y12 : List Bool) (K64 : List Int → Int → Option ((List Int))) : Nat → List Int → Int → Option ((List Int))
  | 0, _, _ => none
  | m + 1, y59, y62 =>
    bif decide ((y62 : Int) < ((y12.length : Int) : Int)) then
      (jn (fun (y70 : List Int) =>
        spec_l14Live_l3 y12 K64 m y70 (w64 (y62 + 1))) fun K74 =>
      (gi y12 y62).bind fun u78 =>
      bif u78 then
        ((apM y59 [y62]).bind fun q86 =>
        K74 q86)
      else
        (K74 y59))
    else
      (K64 y59 y62)

def spec_l14Live_l1 (x0 : Vm.Repo) (K15 : Int → List Bool → Option ((List Int))) : Nat → Int → List Bool → Option ((List Int))
  | 0, _, _ => none
  | m + 1, y9, y12 =>
    bif decide ((y9 : Int) < ((x0.Heads.length : Int) : Int)) then
      ((gi x0.Heads y9).bind fun u25 =>
      (Vm.spec_l8All x0 u25.At).bind fun z29 =>
      jn (fun (y35 : Int) (y36 : List Bool) =>
        spec_l14Live_l1 x0 K15 m (w64 (y9 + 1)) y36) fun K39 =>
      spec_l14Live_l2 z29 K39 (((z29.length : Int) - 0).toNat + 1) 0 y12)
    else
      (K15 y9 y12)

def spec_l14Live (x0 : Vm.Repo) : Option ((List Int)) :=
  (mkM (x0.Commits.length : Int) (false : Bool)).bind fun q4 =>
  jn (fun (y9 : Int) (y12 : List Bool) =>
    jn (fun (y59 : List Int) (y62 : Int) =>
      some y59) fun K64 =>
    spec_l14Live_l3 y12 K64 (((y12.length : Int) - 0).toNat + 1) ([] : List Int) 0) fun K15 =>
  spec_l14Live_l1 x0 K15 (((x0.Heads.length : Int) - 0).toNat + 1) 0 q4

def spec_KeepLive (x0 : Vm.Repo) : Option ((List Int)) :=
  (Vm.spec_l7Ok x0).bind fun z5 =>
  bif (!z5) then
    (some ([] : List Int))
  else
    ((Vm.spec_l14Live x0).bind fun z13 =>
    some z13)

def laws_FnKeepLive_l2 (z2 : Vm.Repo) (y49 : Int) (K64 : Bool → Int → Option (Bool)) : Nat → Bool → Int → Option (Bool)
  | 0, _, _ => none
  | m + 1, y61, y62 =>
    bif decide ((y62 : Int) < ((z2.Heads.length : Int) : Int)) then
      (bif y61 then
        (laws_FnKeepLive_l2 z2 y49 K64 m true (w64 (y62 + 1)))
      else
        ((gi z2.Heads y62).bind fun u79 =>
        (Vm.impl_AncIs (Vm.Repo.mk z2.Commits z2.Heads) y49 u79.At).bind fun z82 =>
        laws_FnKeepLive_l2 z2 y49 K64 m z82 (w64 (y62 + 1))))
    else
      (K64 y61 y62)

def laws_FnKeepLive_l1 (z2 : Vm.Repo) (z15 : (List Int)) (K53 : Bool → Int → Option (Bool)) : Nat → Bool → Int → Option (Bool)
  | 0, _, _ => none
  | m + 1, y48, y49 =>
    bif decide ((y49 : Int) < ((z2.Commits.length : Int) : Int)) then
      (jn (fun (y61 : Bool) (y62 : Int) =>
        (Vm.laws_smIn z15 y49).bind fun z90 =>
        bif (y61 != z90) then
          (some false)
        else
          (laws_FnKeepLive_l1 z2 z15 K53 m y48 (w64 (y49 + 1)))) fun K64 =>
      laws_FnKeepLive_l2 z2 y49 K64 (((z2.Heads.length : Int) - 0).toNat + 1) false 0)
    else
      (K53 y48 y49)

def laws_FnKeepLive (x0 : List Byte) : Option (Bool) :=
  bif decide ((1048576 : Int) < ((x0.length : Int) : Int)) then
    (some true)
  else
    ((Vm.spec_DrawKeepLive x0).bind fun z2 =>
    (Vm.impl_KeepLive (Vm.Repo.mk z2.Commits z2.Heads)).bind fun z15 =>
    jn (fun (y22 : Bool) =>
      bif y22 then
        ((Vm.spec_KeepLive (Vm.Repo.mk z2.Commits z2.Heads)).bind fun z31 =>
        (Vm.laws_smInts z15 z31).bind fun z39 =>
        some z39)
      else
        (jn (fun (y48 : Bool) (y49 : Int) =>
          some true) fun K53 =>
        laws_FnKeepLive_l1 z2 z15 K53 (((z2.Commits.length : Int) - 0).toNat + 1) false 0)) fun K24 =>
    (Vm.spec_KeepLive (Vm.Repo.mk z2.Commits z2.Heads)).bind fun z99 =>
    (Vm.laws_smInts z15 z99).bind fun z107 =>
    bif (!z107) then
      (K24 true)
    else
      ((Vm.impl_RepoOk (Vm.Repo.mk z2.Commits z2.Heads)).bind fun z118 =>
      K24 (!z118)))

end Go.Vm
