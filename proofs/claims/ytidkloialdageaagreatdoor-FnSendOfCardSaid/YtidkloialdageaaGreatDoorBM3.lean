/- Models of the functions: plain Lean, printed by a program of ours. Conditions: none. -/
import Derived.Test.YtidkloialdageaaGreatDoorBLw
import Derived.Test.YtidkloialdageaaGreatDoorBM0
namespace Go.Vm
open Go Go.Sx
set_option linter.unusedVariables false
set_option linter.unusedSimpArgs false

def impl_Repo_own_l1 (x0 : Vm.Repo) (K38 : Int → List Vm.Commit → List Vm.Head → Option (Vm.Repo)) : Nat → Int → List Vm.Commit → List Vm.Head → Option (Vm.Repo)
  | 0, _, _, _ => none
  | m + 1, y29, y30, y33 =>
    bif decide ((y29 : Int) < ((x0.Commits.length : Int) : Int)) then
      ((gi x0.Commits y29).bind fun u44 =>
      (apM ([] : List Int) u44.Parents).bind fun q84 =>
      (Vm.impl_copyTree u44.Tree).bind fun z96 =>
      (apM y30 [Vm.Commit.mk q84 u44.Who z96]).bind fun q117 =>
      impl_Repo_own_l1 x0 K38 m (w64 (y29 + 1)) q117 y33)
    else
      (K38 y29 y30 y33)

def impl_Repo_own (x0 : Vm.Repo) : Option (Vm.Repo) :=
  (apM ([] : List Head) x0.Heads).bind fun q10 =>
  jn (fun (y29 : Int) (y30 : List Vm.Commit) (y33 : List Vm.Head) =>
    some (Vm.Repo.mk y30 y33)) fun K38 =>
  impl_Repo_own_l1 x0 K38 (((x0.Commits.length : Int) - 0).toNat + 1) 0 ([] : List Commit) q10

def slices_Insert_impl_Head_impl_Head (x0 : List Vm.Head) (x1 : Int) (x2 : Vm.Head) : Option ((List Vm.Head)) :=
  if 0 ≤ x1 ∧ x1 ≤ x0.length ∧ x0.length + 1 ≤ lim then some (x0.take x1.toNat ++ [x2] ++ x0.drop x1.toNat) else none

def impl_insertHead_l1 (x0 : List Vm.Head) (x1 : Vm.Head) (K6 : Int → Option ((List Vm.Head))) : Nat → Int → Option ((List Vm.Head))
  | 0, _ => none
  | m + 1, y4 =>
    jn (fun (y10 : Bool) =>
      bif y10 then
        (impl_insertHead_l1 x0 x1 K6 m (w64 (y4 - 1)))
      else
        (K6 y4)) fun K12 =>
    bif decide ((0 : Int) < (y4 : Int)) then
      ((gi x0 (w64 (y4 - 1))).bind fun u92 =>
      K12 (!(Op.bytesLess u92.Name x1.Name || u92.Name == x1.Name)))
    else
      (K12 false)

def impl_insertHead (x0 : List Vm.Head) (x1 : Vm.Head) : Option ((List Vm.Head)) :=
  jn (fun (y4 : Int) =>
    (apM ([] : List Head) x0).bind fun q22 =>
    (Vm.slices_Insert_impl_Head_impl_Head q22 y4 x1).bind fun z32 =>
    some z32) fun K6 =>
  impl_insertHead_l1 x0 x1 K6 (x0.length + 1) (x0.length : Int)

def impl_Repo_point_l1 (x0 : Vm.Repo) (x1 : Str) (x2 : Int) (K22 : Int → List Vm.Commit → List Vm.Head → List Vm.Head → Option (Vm.Repo)) : Nat → Int → List Vm.Commit → List Vm.Head → List Vm.Head → Option (Vm.Repo)
  | 0, _, _, _, _ => none
  | m + 1, y11, y12, y15, y19 =>
    bif decide ((y11 : Int) < ((x0.Heads.length : Int) : Int)) then
      ((gi y19 y11).bind fun u28 =>
      bif (u28.Name == x1) then
        ((gi y19 y11).bind fun u31 =>
        (siM y19 y11 (Vm.Head.mk u31.Name x2)).bind fun q34 =>
        some (Vm.Repo.mk x0.Commits q34))
      else
        (impl_Repo_point_l1 x0 x1 x2 K22 m (w64 (y11 + 1)) y12 y15 y19))
    else
      (K22 y11 y12 y15 y19)

def impl_Repo_point (x0 : Vm.Repo) (x1 : Str) (x2 : Int) : Option (Vm.Repo) :=
  jn (fun (y11 : Int) (y12 : List Vm.Commit) (y15 : List Vm.Head) (y19 : List Vm.Head) =>
    (Vm.impl_insertHead y19 (Vm.Head.mk x1 x2)).bind fun z63 =>
    some (Vm.Repo.mk x0.Commits z63)) fun K22 =>
  impl_Repo_point_l1 x0 x1 x2 K22 (((x0.Heads.length : Int) - 0).toNat + 1) 0 ([] : List Commit) ([] : List Head) x0.Heads

def impl_Repo_tried (x0 : Vm.Repo) (x1 : Vm.Repo) : Option (Vm.Repo × Bool) :=
  (Vm.impl_RepoOk (Vm.Repo.mk x1.Commits x1.Heads)).bind fun z17 =>
  bif (!z17) then
    ((Vm.impl_Repo_own x0).bind fun z29 =>
    some (Vm.Repo.mk z29.Commits z29.Heads, false))
  else
    (some (Vm.Repo.mk x1.Commits x1.Heads, true))

def impl_SendTake_l2 (x0 : Vm.Repo) (x1 : List Int) (y85 : Int) (u106 : Vm.Commit) (K336 : Bool → Int → List Vm.Commit → List Vm.Head → List Int → Str → List Vm.File → Option (Vm.Repo × Bool)) : Nat → Bool → Int → List Vm.Commit → List Vm.Head → List Int → Str → List Vm.File → Option (Vm.Repo × Bool)
  | 0, _, _, _, _, _, _, _ => none
  | m + 1, y317, y319, y320, y323, y327, y330, y331 =>
    bif decide ((y319 : Int) < ((u106.Parents.length : Int) : Int)) then
      (jn (fun (y345 : Bool) (y347 : List Vm.Commit) (y350 : List Vm.Head) (y354 : List Int) (y357 : Str) (y358 : List Vm.File) =>
        impl_SendTake_l2 x0 x1 y85 u106 K336 m y345 (w64 (y319 + 1)) y347 y350 y354 y357 y358) fun K363 =>
      (gi u106.Parents y319).bind fun u370 =>
      (Vm.impl_within u370 0 (w64 (y85 - 1))).bind fun z373 =>
      bif z373 then
        ((apM y327 [w64 ((x0.Commits.length : Int) + u370)]).bind fun q403 =>
        K363 y317 y320 y323 q403 y330 y331)
      else
        ((Vm.impl_within u370 (w64 (0 - (x1.length : Int))) (-1)).bind fun z432 =>
        bif z432 then
          ((gi x1 (w64 ((-1) - u370))).bind fun u461 =>
          (apM y327 [u461]).bind fun q477 =>
          K363 y317 y320 y323 q477 y330 y331)
        else
          ((Vm.impl_Repo_own x0).bind fun z507 =>
          some (Vm.Repo.mk z507.Commits z507.Heads, false))))
    else
      (K336 y317 y319 y320 y323 y327 y330 y331)

def impl_SendTake_l1 (x0 : Vm.Repo) (x1 : List Int) (x2 : List Vm.Commit) (K101 : Bool → Int → Int → List Vm.Commit → List Vm.Head → List Vm.Commit → List Vm.Head → Option (Vm.Repo × Bool)) : Nat → Bool → Int → Int → List Vm.Commit → List Vm.Head → List Vm.Commit → List Vm.Head → Option (Vm.Repo × Bool)
  | 0, _, _, _, _, _, _, _ => none
  | m + 1, y79, y80, y85, y86, y89, y93, y96 =>
    bif decide ((y85 : Int) < ((x2.length : Int) : Int)) then
      ((gi x2 y85).bind fun u106 =>
      (Vm.impl_copyTree u106.Tree).bind fun z145 =>
      jn (fun (y317 : Bool) (y319 : Int) (y320 : List Vm.Commit) (y323 : List Vm.Head) (y327 : List Int) (y330 : Str) (y331 : List Vm.File) =>
        (apM y93 [Vm.Commit.mk y327 y330 y331]).bind fun q577 =>
        impl_SendTake_l1 x0 x1 x2 K101 m y317 (y93.length : Int) (w64 (y85 + 1)) y320 y323 q577 y96) fun K336 =>
      impl_SendTake_l2 x0 x1 y85 u106 K336 (((u106.Parents.length : Int) - 0).toNat + 1) y79 0 y86 y89 ([] : List Int) u106.Who z145)
    else
      (K101 y79 y80 y85 y86 y89 y93 y96)

def impl_SendTake (x0 : Vm.Repo) (x1 : List Int) (x2 : List Vm.Commit) (x3 : Str) : Option (Vm.Repo × Bool) :=
  (Vm.impl_RepoOk x0).bind fun z9 =>
  bif (!z9) then
    (some (Vm.Repo.mk ([] : List Commit) ([] : List Head), false))
  else
    (jn (fun (y19 : Bool) =>
      bif y19 then
        ((Vm.impl_Repo_own x0).bind fun z28 =>
        some (Vm.Repo.mk z28.Commits z28.Heads, false))
      else
        ((Vm.impl_Repo_own x0).bind fun z51 =>
        jn (fun (y69 : Int) =>
          jn (fun (y79 : Bool) (y80 : Int) (y85 : Int) (y86 : List Vm.Commit) (y89 : List Vm.Head) (y93 : List Vm.Commit) (y96 : List Vm.Head) =>
            (Vm.impl_Repo_point (Vm.Repo.mk y93 y96) x3 y80).bind fun z610 =>
            (Vm.impl_Repo_tried x0 (Vm.Repo.mk z610.Commits z610.Heads)).bind fun z622 =>
            some (Vm.Repo.mk z622.1.Commits z622.1.Heads, z622.2)) fun K101 =>
          impl_SendTake_l1 x0 x1 x2 K101 (((x2.length : Int) - 0).toNat + 1) false y69 0 ([] : List Commit) ([] : List Head) z51.Commits z51.Heads) fun K71 =>
        bif decide ((0 : Int) < ((x1.length : Int) : Int)) then
          ((gi x1 0).bind fun u657 =>
          K71 u657)
        else
          (K71 (-1)))) fun K21 =>
    bif decide ((16 : Int) < ((x1.length : Int) : Int)) then
      (K21 true)
    else
      ((Vm.impl_Repo_are x0 x1).bind fun z664 =>
      bif (!z664) then
        (K21 true)
      else
        (K21 ((w64 ((x2.length : Int) + (x1.length : Int)) : Int) == (0 : Int)))))

def impl_Repo_at_l1 (x0 : Vm.Repo) (x1 : Str) (K8 : Int → Int → Option (Int)) : Nat → Int → Int → Option (Int)
  | 0, _, _ => none
  | m + 1, y4, y6 =>
    bif decide ((y6 : Int) < ((x0.Heads.length : Int) : Int)) then
      ((gi x0.Heads y6).bind fun u13 =>
      bif (u13.Name == x1) then
        (some u13.At)
      else
        (impl_Repo_at_l1 x0 x1 K8 m y4 (w64 (y6 + 1))))
    else
      (K8 y4 y6)

def impl_Repo_at (x0 : Vm.Repo) (x1 : Str) : Option (Int) :=
  jn (fun (y4 : Int) (y6 : Int) =>
    some (-1)) fun K8 =>
  impl_Repo_at_l1 x0 x1 K8 (((x0.Heads.length : Int) - 0).toNat + 1) 0 0

def impl_RepoAt (x0 : Vm.Repo) (x1 : Str) : Option (Int) :=
  (Vm.impl_RepoOk x0).bind fun z6 =>
  bif (!z6) then
    (some (-1))
  else
    ((Vm.impl_Repo_at x0 x1).bind fun z14 =>
    some z14)

end Go.Vm
