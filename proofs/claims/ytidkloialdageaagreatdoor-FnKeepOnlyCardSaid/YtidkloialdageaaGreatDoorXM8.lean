/- Models of the functions: plain Lean, printed by a program of ours. Conditions: none. -/
import Derived.Test.YtidkloialdageaaGreatDoorXLw
import Derived.Test.YtidkloialdageaaGreatDoorXM0
import Derived.Test.YtidkloialdageaaGreatDoorXM1
import Derived.Test.YtidkloialdageaaGreatDoorXM2
import Derived.Test.YtidkloialdageaaGreatDoorXM4
namespace Go.Vm
open Go Go.Sx
set_option linter.unusedVariables false
set_option linter.unusedSimpArgs false

def spec_l30Loose_l1 (x0 : Vm.l30Rd) (K44 : Int → Int → List Vm.Commit → List Vm.Head → Option (Vm.Repo × Int)) : Nat → Int → Int → List Vm.Commit → List Vm.Head → Option (Vm.Repo × Int)
  | 0, _, _, _, _ => none
  | m + 1, y31, y34, y36, y39 =>
    bif decide ((0 : Int) < (y31 : Int)) then
      (jn (fun (y51 : Int) (y53 : List Vm.Commit) (y56 : List Vm.Head) =>
        spec_l30Loose_l1 x0 K44 m (w64 (y31 - 1)) y51 y53 y56) fun K61 =>
      (Vm.spec_l30Branch (Vm.l30Rd.mk x0.b y34)).bind fun z72 =>
      (Vm.spec_RepoDrop (Vm.Repo.mk y36 y39) z72.1).bind fun z80 =>
      jn (fun (y224 : Bool) =>
        bif y224 then
          (K61 z72.2 z80.1.Commits z80.1.Heads)
        else
          (K61 z72.2 y36 y39)) fun K226 =>
      (Vm.spec_l7Ok (Vm.Repo.mk z80.1.Commits z80.1.Heads)).bind fun z261 =>
      bif z261 then
        ((Vm.spec_l7Ok (Vm.Repo.mk y36 y39)).bind fun z274 =>
        K226 z274)
      else
        (K226 false))
    else
      (K44 y31 y34 y36 y39)

def spec_l30Loose (x0 : Vm.l30Rd) : Option (Vm.Repo × Int) :=
  (Vm.spec_l30AnyRepo x0).bind fun z5 =>
  (Vm.spec_l30Rd_pick (Vm.l30Rd.mk x0.b z5.2) 3).bind fun z23 =>
  jn (fun (y31 : Int) (y34 : Int) (y36 : List Vm.Commit) (y39 : List Vm.Head) =>
    some (Vm.Repo.mk y36 y39, y34)) fun K44 =>
  spec_l30Loose_l1 x0 K44 ((z23.1 - 0).toNat + 1) z23.1 z23.2 z5.1.Commits z5.1.Heads

def spec_DrawKeepOnly (x0 : List Byte) : Option (Vm.Repo) :=
  (Vm.spec_l30Open x0).bind fun z4 =>
  (Vm.spec_l30Loose z4).bind fun z10 =>
  some (Vm.Repo.mk z10.1.Commits z10.1.Heads)

def impl_Repo_live_l2 (z44 : (List Int)) (K57 : Int → List Bool → Option ((List Bool))) : Nat → Int → List Bool → Option ((List Bool))
  | 0, _, _ => none
  | m + 1, y53, y54 =>
    bif decide ((y53 : Int) < ((z44.length : Int) : Int)) then
      ((gi z44 y53).bind fun u65 =>
      (gi y54 u65).bind fun u67 =>
      (siM y54 u65 true).bind fun q70 =>
      impl_Repo_live_l2 z44 K57 m (w64 (y53 + 1)) q70)
    else
      (K57 y53 y54)

def impl_Repo_live_l1 (x0 : Vm.Repo) (K16 : Int → List Bool → Option ((List Bool))) : Nat → Int → List Bool → Option ((List Bool))
  | 0, _, _ => none
  | m + 1, y12, y13 =>
    bif decide ((y12 : Int) < ((x0.Heads.length : Int) : Int)) then
      ((gi x0.Heads y12).bind fun u21 =>
      (Vm.impl_Repo_ancestors x0 u21.At).bind fun z37 =>
      (Vm.impl_listOf z37).bind fun z44 =>
      jn (fun (y53 : Int) (y54 : List Bool) =>
        impl_Repo_live_l1 x0 K16 m (w64 (y12 + 1)) y54) fun K57 =>
      impl_Repo_live_l2 z44 K57 (((z44.length : Int) - 0).toNat + 1) 0 y13)
    else
      (K16 y12 y13)

def impl_Repo_live (x0 : Vm.Repo) : Option ((List Bool)) :=
  (mkM (x0.Commits.length : Int) (false : Bool)).bind fun q4 =>
  jn (fun (y12 : Int) (y13 : List Bool) =>
    some y13) fun K16 =>
  impl_Repo_live_l1 x0 K16 (((x0.Heads.length : Int) - 0).toNat + 1) 0 q4

def impl_KeepOnly_l2 (q77 : List Int) (u351 : Vm.Commit) (K368 : Int → List Int → Str → List Vm.File → Option (Vm.Repo)) : Nat → Int → List Int → Str → List Vm.File → Option (Vm.Repo)
  | 0, _, _, _, _ => none
  | m + 1, y358, y359, y362, y363 =>
    bif decide ((y358 : Int) < ((u351.Parents.length : Int) : Int)) then
      ((gi u351.Parents y358).bind fun u380 =>
      (gi q77 u380).bind fun u396 =>
      (apM y359 [u396]).bind fun q411 =>
      impl_KeepOnly_l2 q77 u351 K368 m (w64 (y358 + 1)) q411 y362 y363)
    else
      (K368 y358 y359 y362 y363)

def impl_KeepOnly_l3 (x0 : Vm.Repo) (y61 : List Int) (K487 : Int → List Vm.Commit → List Vm.Head → Option (Vm.Repo)) : Nat → Int → List Vm.Commit → List Vm.Head → Option (Vm.Repo)
  | 0, _, _, _ => none
  | m + 1, y478, y479, y482 =>
    bif decide ((y478 : Int) < ((x0.Heads.length : Int) : Int)) then
      ((gi x0.Heads y478).bind fun u496 =>
      (gi y61 u496.At).bind fun u533 =>
      (apM y482 [Vm.Head.mk u496.Name u533]).bind fun q546 =>
      impl_KeepOnly_l3 x0 y61 K487 m (w64 (y478 + 1)) y479 q546)
    else
      (K487 y478 y479 y482)

def impl_KeepOnly_l1 (x0 : Vm.Repo) (z41 : (List Int)) (K64 : Int → List Vm.Commit → List Vm.Head → List Int → Option (Vm.Repo)) : Nat → Int → List Vm.Commit → List Vm.Head → List Int → Option (Vm.Repo)
  | 0, _, _, _, _ => none
  | m + 1, y53, y54, y57, y61 =>
    bif decide ((y53 : Int) < ((z41.length : Int) : Int)) then
      ((gi z41 y53).bind fun u72 =>
      (gi y61 u72).bind fun u74 =>
      (siM y61 u72 (y54.length : Int)).bind fun q77 =>
      (gi x0.Commits u72).bind fun u97 =>
      (Vm.impl_Repo_tree x0 u72).bind fun z101 =>
      (Vm.impl_copyTree z101).bind fun z114 =>
      (gi x0.Commits u72).bind fun u351 =>
      jn (fun (y358 : Int) (y359 : List Int) (y362 : Str) (y363 : List Vm.File) =>
        (apM y54 [Vm.Commit.mk y359 y362 y363]).bind fun q452 =>
        impl_KeepOnly_l1 x0 z41 K64 m (w64 (y53 + 1)) q452 y57 q77) fun K368 =>
      impl_KeepOnly_l2 q77 u351 K368 (((u351.Parents.length : Int) - 0).toNat + 1) 0 ([] : List Int) u97.Who z114)
    else
      (K64 y53 y54 y57 y61)

def impl_KeepOnly (x0 : Vm.Repo) : Option (Vm.Repo) :=
  (Vm.impl_RepoOk x0).bind fun z9 =>
  bif (!z9) then
    (some (Vm.Repo.mk ([] : List Commit) ([] : List Head)))
  else
    ((mkM (x0.Commits.length : Int) (0 : Int)).bind fun q20 =>
    (Vm.impl_Repo_live x0).bind fun z33 =>
    (Vm.impl_listOf z33).bind fun z41 =>
    jn (fun (y53 : Int) (y54 : List Vm.Commit) (y57 : List Vm.Head) (y61 : List Int) =>
      jn (fun (y478 : Int) (y479 : List Vm.Commit) (y482 : List Vm.Head) =>
        some (Vm.Repo.mk y479 y482)) fun K487 =>
      impl_KeepOnly_l3 x0 y61 K487 (((x0.Heads.length : Int) - 0).toNat + 1) 0 y54 y57) fun K64 =>
    impl_KeepOnly_l1 x0 z41 K64 (((z41.length : Int) - 0).toNat + 1) 0 ([] : List Commit) ([] : List Head) q20)

def spec_l14Live_l2 (z29 : (List Int)) (K39 : Int → List Bool → Option ((List Int))) : Nat → Int → List Bool → Option ((List Int))
  | 0, _, _ => none
  | m + 1, y35, y36 =>
    bif decide ((y35 : Int) < ((z29.length : Int) : Int)) then
      ((gi z29 y35).bind fun u45 =>
      (gi y36 u45).bind fun u47 =>
      (siM y36 u45 true).bind fun q50 =>
      spec_l14Live_l2 z29 K39 m (w64 (y35 + 1)) q50)
    else
      (K39 y35 y36)

def spec_l14Live_l3 (y12 : List Bool) (K64 : List Int → Int → Option ((List Int))) : Nat → List Int → Int → Option ((List Int))
  | 0, _, _ => none
  | m + 1, y59, y62 =>
    bif decide ((y62 : Int) < ((y12.length : Int) : Int)) then
      (jn (fun (y70 : List Int) =>
        spec_l14Live_l3 y12 K64 m y70 (w64 (y62 + 1))) fun K74 =>
      (gi y12 y62).bind fun u78 =>
      bif u78 then
        ((apM y59 [y62]).bind fun q86 =>
        K74 q86)
      else
        (K74 y59))
    else
      (K64 y59 y62)

def spec_l14Live_l1 (x0 : Vm.Repo) (K15 : Int → List Bool → Option ((List Int))) : Nat → Int → List Bool → Option ((List Int))
  | 0, _, _ => none
  | m + 1, y9, y12 =>
    bif decide ((y9 : Int) < ((x0.Heads.length : Int) : Int)) then
      ((gi x0.Heads y9).bind fun u25 =>
      (Vm.spec_l8All x0 u25.At).bind fun z29 =>
      jn (fun (y35 : Int) (y36 : List Bool) =>
        spec_l14Live_l1 x0 K15 m (w64 (y9 + 1)) y36) fun K39 =>
      spec_l14Live_l2 z29 K39 (((z29.length : Int) - 0).toNat + 1) 0 y12)
    else
      (K15 y9 y12)

def spec_l14Live (x0 : Vm.Repo) : Option ((List Int)) :=
  (mkM (x0.Commits.length : Int) (false : Bool)).bind fun q4 =>
  jn (fun (y9 : Int) (y12 : List Bool) =>
    jn (fun (y59 : List Int) (y62 : Int) =>
      some y59) fun K64 =>
    spec_l14Live_l3 y12 K64 (((y12.length : Int) - 0).toNat + 1) ([] : List Int) 0) fun K15 =>
  spec_l14Live_l1 x0 K15 (((x0.Heads.length : Int) - 0).toNat + 1) 0 q4

def spec_l14Place_l1 (x0 : List Int) (x1 : Int) (K4 : Int → Int → Option (Int)) : Nat → Int → Int → Option (Int)
  | 0, _, _ => none
  | m + 1, y1, y2 =>
    bif decide ((y2 : Int) < ((x0.length : Int) : Int)) then
      ((gi x0 y2).bind fun u9 =>
      bif ((u9 : Int) == (x1 : Int)) then
        (some y2)
      else
        (spec_l14Place_l1 x0 x1 K4 m y1 (w64 (y2 + 1))))
    else
      (K4 y1 y2)

def spec_l14Place (x0 : List Int) (x1 : Int) : Option (Int) :=
  jn (fun (y1 : Int) (y2 : Int) =>
    some (-1)) fun K4 =>
  spec_l14Place_l1 x0 x1 K4 (((x0.length : Int) - 0).toNat + 1) 0 0

def spec_KeepOnly_l2 (z30 : (List Int)) (K258 : Int → List Int → Option (Vm.Repo)) : Nat → Int → List Int → Option (Vm.Repo)
  | 0, _, _ => none
  | m + 1, y254, y255 =>
    bif decide ((y254 : Int) < ((y255.length : Int) : Int)) then
      ((gi y255 y254).bind fun u281 =>
      (Vm.spec_l14Place z30 u281).bind fun z283 =>
      (gi y255 y254).bind fun u296 =>
      (siM y255 y254 z283).bind fun q299 =>
      spec_KeepOnly_l2 z30 K258 m (w64 (y254 + 1)) q299)
    else
      (K258 y254 y255)

def spec_KeepOnly_l3 (x0 : Vm.Repo) (z30 : (List Int)) (K350 : Int → List Vm.Commit → List Vm.Head → Option (Vm.Repo)) : Nat → Int → List Vm.Commit → List Vm.Head → Option (Vm.Repo)
  | 0, _, _, _ => none
  | m + 1, y341, y342, y345 =>
    bif decide ((y341 : Int) < ((x0.Heads.length : Int) : Int)) then
      ((gi x0.Heads y341).bind fun u366 =>
      (gi x0.Heads y341).bind fun u369 =>
      (Vm.spec_l14Place z30 u369.At).bind fun z371 =>
      (apM y345 [Vm.Head.mk u366.Name z371]).bind fun q389 =>
      spec_KeepOnly_l3 x0 z30 K350 m (w64 (y341 + 1)) y342 q389)
    else
      (K350 y341 y342 y345)

def spec_KeepOnly_l1 (x0 : Vm.Repo) (z30 : (List Int)) (K48 : Int → List Vm.Commit → List Vm.Head → Option (Vm.Repo)) : Nat → Int → List Vm.Commit → List Vm.Head → Option (Vm.Repo)
  | 0, _, _, _ => none
  | m + 1, y37, y40, y43 =>
    bif decide ((y37 : Int) < ((z30.length : Int) : Int)) then
      ((gi z30 y37).bind fun u63 =>
      (gi x0.Commits u63).bind fun u65 =>
      (Vm.spec_l7CopyCommit u65).bind fun z75 =>
      jn (fun (y254 : Int) (y255 : List Int) =>
        (apM y40 [Vm.Commit.mk y255 z75.Who z75.Tree]).bind fun q321 =>
        spec_KeepOnly_l1 x0 z30 K48 m (w64 (y37 + 1)) q321 y43) fun K258 =>
      spec_KeepOnly_l2 z30 K258 (((z75.Parents.length : Int) - 0).toNat + 1) 0 z75.Parents)
    else
      (K48 y37 y40 y43)

def spec_KeepOnly (x0 : Vm.Repo) : Option (Vm.Repo) :=
  (Vm.spec_l7Ok x0).bind fun z16 =>
  bif (!z16) then
    (some (Vm.Repo.mk ([] : List Commit) ([] : List Head)))
  else
    ((Vm.spec_l14Live x0).bind fun z30 =>
    jn (fun (y37 : Int) (y40 : List Vm.Commit) (y43 : List Vm.Head) =>
      jn (fun (y341 : Int) (y342 : List Vm.Commit) (y345 : List Vm.Head) =>
        some (Vm.Repo.mk y342 y345)) fun K350 =>
      spec_KeepOnly_l3 x0 z30 K350 (((x0.Heads.length : Int) - 0).toNat + 1) 0 y40 y43) fun K48 =>
    spec_KeepOnly_l1 x0 z30 K48 (((z30.length : Int) - 0).toNat + 1) 0 ([] : List Commit) ([] : List Head))

def impl_RepoTree (x0 : Vm.Repo) (x1 : Int) : Option ((List Vm.File) × Bool) :=
  jn (fun (y3 : Bool) =>
    bif y3 then
      (some (([] : List File), false))
    else
      ((Vm.impl_Repo_tree x0 x1).bind fun z11 =>
      (Vm.impl_copyTree z11).bind fun z17 =>
      some (z17, true))) fun K5 =>
  (Vm.impl_RepoOk x0).bind fun z25 =>
  bif (!z25) then
    (K5 true)
  else
    ((Vm.impl_Repo_exists x0 x1).bind fun z33 =>
    K5 (!z33))

def impl_KeepLive (x0 : Vm.Repo) : Option ((List Int)) :=
  (Vm.impl_RepoOk x0).bind fun z6 =>
  bif (!z6) then
    (some ([] : List Int))
  else
    ((Vm.impl_Repo_live x0).bind fun z14 =>
    (Vm.impl_listOf z14).bind fun z19 =>
    some z19)

def laws_FnKeepOnly_l2 (z2 : Vm.Repo) (z15 : Vm.Repo) (z167 : (List Int)) (z205 : (List Int)) (K236 : Bool → Int → Option (Bool)) : Nat → Bool → Int → Option (Bool)
  | 0, _, _ => none
  | m + 1, y233, y234 =>
    bif decide ((y234 : Int) < ((z167.length : Int) : Int)) then
      (jn (fun (y250 : Bool) =>
        bif y250 then
          (some false)
        else
          (laws_FnKeepOnly_l2 z2 z15 z167 z205 K236 m y233 (w64 (y234 + 1)))) fun K252 =>
      (gi z167 y234).bind fun u277 =>
      (gi z2.Commits u277).bind fun u279 =>
      (gi z205 y234).bind fun u281 =>
      (gi z15.Commits u281).bind fun u283 =>
      bif (u279.Who != u283.Who) then
        (K252 true)
      else
        ((gi z167 y234).bind fun u286 =>
        (gi z2.Commits u286).bind fun u288 =>
        (gi z205 y234).bind fun u293 =>
        (gi z15.Commits u293).bind fun u295 =>
        (Vm.laws_smTree u288.Tree u295.Tree).bind fun z300 =>
        bif (!z300) then
          (K252 true)
        else
          ((gi z167 y234).bind fun u315 =>
          (gi z2.Commits u315).bind fun u317 =>
          (gi z205 y234).bind fun u323 =>
          (gi z15.Commits u323).bind fun u325 =>
          K252 (((u317.Parents.length : Int) : Int) != ((u325.Parents.length : Int) : Int)))))
    else
      (K236 y233 y234)

def laws_FnKeepOnly_l1 (z2 : Vm.Repo) (z15 : Vm.Repo) (K88 : Bool → Int → Option (Bool)) : Nat → Bool → Int → Option (Bool)
  | 0, _, _ => none
  | m + 1, y77, y78 =>
    bif decide ((y78 : Int) < ((z2.Heads.length : Int) : Int)) then
      ((gi z2.Heads y78).bind fun u98 =>
      (gi z2.Heads y78).bind fun u108 =>
      (Vm.impl_RepoTree (Vm.Repo.mk z2.Commits z2.Heads) u108.At).bind fun z111 =>
      (Vm.impl_RepoAt (Vm.Repo.mk z15.Commits z15.Heads) u98.Name).bind fun z131 =>
      (Vm.impl_RepoTree (Vm.Repo.mk z15.Commits z15.Heads) z131).bind fun z143 =>
      (gi z2.Heads y78).bind fun u164 =>
      (Vm.impl_AncAll (Vm.Repo.mk z2.Commits z2.Heads) u164.At).bind fun z167 =>
      (Vm.impl_RepoAt (Vm.Repo.mk z15.Commits z15.Heads) u98.Name).bind fun z191 =>
      (Vm.impl_AncAll (Vm.Repo.mk z15.Commits z15.Heads) z191).bind fun z205 =>
      jn (fun (y218 : Bool) =>
        bif y218 then
          (some false)
        else
          (jn (fun (y233 : Bool) (y234 : Int) =>
            laws_FnKeepOnly_l1 z2 z15 K88 m y233 (w64 (y78 + 1))) fun K236 =>
          laws_FnKeepOnly_l2 z2 z15 z167 z205 K236 (((z167.length : Int) - 0).toNat + 1) y77 0)) fun K220 =>
      bif (!z143.2) then
        (K220 true)
      else
        ((Vm.laws_smTree z111.1 z143.1).bind fun z332 =>
        bif (!z332) then
          (K220 true)
        else
          (K220 (((z167.length : Int) : Int) != ((z205.length : Int) : Int)))))
    else
      (K88 y77 y78)

def laws_FnKeepOnly (x0 : List Byte) : Option (Bool) :=
  bif decide ((1048576 : Int) < ((x0.length : Int) : Int)) then
    (some true)
  else
    ((Vm.spec_DrawKeepOnly x0).bind fun z2 =>
    (Vm.impl_KeepOnly (Vm.Repo.mk z2.Commits z2.Heads)).bind fun z15 =>
    jn (fun (y36 : Bool) =>
      bif y36 then
        ((Vm.spec_KeepOnly (Vm.Repo.mk z2.Commits z2.Heads)).bind fun z55 =>
        (Vm.laws_smRepo (Vm.Repo.mk z15.Commits z15.Heads) (Vm.Repo.mk z55.Commits z55.Heads)).bind fun z65 =>
        some z65)
      else
        (jn (fun (y77 : Bool) (y78 : Int) =>
          jn (fun (y347 : Bool) =>
            some y347) fun K349 =>
          (Vm.impl_RepoOk (Vm.Repo.mk z15.Commits z15.Heads)).bind fun z366 =>
          bif z366 then
            (bif (((z15.Heads.length : Int) : Int) == ((z2.Heads.length : Int) : Int)) then
              ((Vm.impl_KeepLive (Vm.Repo.mk z2.Commits z2.Heads)).bind fun z379 =>
              bif (((z15.Commits.length : Int) : Int) == ((z379.length : Int) : Int)) then
                ((Vm.impl_KeepOnly (Vm.Repo.mk z15.Commits z15.Heads)).bind fun z391 =>
                (Vm.laws_smRepo (Vm.Repo.mk z391.Commits z391.Heads) (Vm.Repo.mk z15.Commits z15.Heads)).bind fun z402 =>
                K349 z402)
              else
                (K349 false))
            else
              (K349 false))
          else
            (K349 false)) fun K88 =>
        laws_FnKeepOnly_l1 z2 z15 K88 (((z2.Heads.length : Int) - 0).toNat + 1) false 0)) fun K38 =>
    (Vm.spec_KeepOnly (Vm.Repo.mk z2.Commits z2.Heads)).bind fun z423 =>
    (Vm.laws_smRepo (Vm.Repo.mk z15.Commits z15.Heads) (Vm.Repo.mk z423.Commits z423.Heads)).bind fun z433 =>
    bif (!z433) then
      (K38 true)
    else
      ((Vm.impl_RepoOk (Vm.Repo.mk z2.Commits z2.Heads)).bind fun z447 =>
      K38 (!z447)))

end Go.Vm
