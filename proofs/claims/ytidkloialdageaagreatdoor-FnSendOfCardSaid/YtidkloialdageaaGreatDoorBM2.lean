/- Models of the functions: plain Lean, printed by a program of ours. Conditions: none. -/
import Derived.Test.YtidkloialdageaaGreatDoorBLw
import Derived.Test.YtidkloialdageaaGreatDoorBM0
namespace Go.Vm
open Go Go.Sx
set_option linter.unusedVariables false
set_option linter.unusedSimpArgs false

def spec_l30AnyRepo (x0 : Vm.l30Rd) : Option (Vm.Repo × Int) :=
  (Vm.spec_l30Repo x0).bind fun z5 =>
  jn (fun (y23 : Int) (y25 : List Vm.Commit) (y28 : List Vm.Head) =>
    some (Vm.Repo.mk y25 y28, y23)) fun K33 =>
  bif decide ((0 : Int) < ((z5.1.Commits.length : Int) : Int)) then
    ((Vm.spec_l30Rd_pick (Vm.l30Rd.mk x0.b z5.2) (z5.1.Commits.length : Int)).bind fun z56 =>
    (Vm.spec_l30Rd_pick (Vm.l30Rd.mk x0.b z56.2) 16).bind fun z65 =>
    bif ((z65.1 : Int) == (0 : Int)) then
      ((gi z5.1.Commits z56.1).bind fun u81 =>
      (siM z5.1.Commits z56.1 (Vm.Commit.mk ([z56.1] : List Int) u81.Who u81.Tree)).bind fun q84 =>
      K33 z65.2 q84 z5.1.Heads)
    else
      (bif ((z65.1 : Int) == (1 : Int)) then
        ((gi z5.1.Commits z56.1).bind fun u92 =>
        (siM z5.1.Commits z56.1 (Vm.Commit.mk u92.Parents ([] : Str) u92.Tree)).bind fun q95 =>
        K33 z65.2 q95 z5.1.Heads)
      else
        (bif ((z65.1 : Int) == (2 : Int)) then
          ((gi z5.1.Heads 0).bind fun u110 =>
          (apM z5.1.Heads [u110]).bind fun q122 =>
          K33 z65.2 z5.1.Commits q122)
        else
          (K33 z65.2 z5.1.Commits z5.1.Heads))))
  else
    (K33 z5.2 z5.1.Commits z5.1.Heads)

def impl_Repo_areSuspect (x0 : Vm.Repo) (x1 : List Int) (x2 : Int) : Option (Bool) :=
  jn (fun (y3 : Bool) =>
    some y3) fun K5 =>
  (Vm.impl_Repo_are x0 x1).bind fun z12 =>
  bif z12 then
    (bif decide (((x1.length : Int) : Int) ≤ (16 : Int)) then
      ((Vm.impl_Repo_exists x0 x2).bind fun z22 =>
      K5 z22)
    else
      (K5 false))
  else
    (K5 false)

def impl_Repo_ancestors_l2 (K30 : List Bool → Option ((List Bool))) (u36 : Vm.Commit)  : Nat → Int → List Bool → Option ((List Bool))
  | 0, _, _ => none
  | m + 1, y43, y44 =>
    bif decide ((y43 : Int) < ((u36.Parents.length : Int) : Int)) then
      ((gi u36.Parents y43).bind fun u52 =>
      (gi y44 u52).bind fun u55 =>
      (siM y44 u52 true).bind fun q58 =>
      impl_Repo_ancestors_l2 K30 u36 m (w64 (y43 + 1)) q58)
    else
      (K30 y44)

def impl_Repo_ancestors_l1 (x0 : Vm.Repo) (K21 : Int → List Bool → Option ((List Bool))) : Nat → Int → List Bool → Option ((List Bool))
  | 0, _, _ => none
  | m + 1, y16, y18 =>
    bif decide ((0 : Int) ≤ (y16 : Int)) then
      (jn (fun (y27 : List Bool) =>
        impl_Repo_ancestors_l1 x0 K21 m (w64 (y16 - 1)) y27) fun K30 =>
      (gi y18 y16).bind fun u33 =>
      bif u33 then
        ((gi x0.Commits y16).bind fun u36 =>
        impl_Repo_ancestors_l2 K30 u36 (((u36.Parents.length : Int) - 0).toNat + 1) 0 y18)
      else
        (K30 y18))
    else
      (K21 y16 y18)

def impl_Repo_ancestors (x0 : Vm.Repo) (x1 : Int) : Option ((List Bool)) :=
  (mkM (x0.Commits.length : Int) (false : Bool)).bind fun q4 =>
  (gi q4 x1).bind fun u9 =>
  (siM q4 x1 true).bind fun q12 =>
  jn (fun (y16 : Int) (y18 : List Bool) =>
    some y18) fun K21 =>
  impl_Repo_ancestors_l1 x0 K21 ((x1 + 1 - 0).toNat + 1) x1 q12

def impl_listOf_l1 (x0 : List Bool) (K8 : List Int → Int → Option ((List Int))) : Nat → List Int → Int → Option ((List Int))
  | 0, _, _ => none
  | m + 1, y1, y6 =>
    bif decide ((y6 : Int) < ((x0.length : Int) : Int)) then
      (jn (fun (y12 : List Int) =>
        impl_listOf_l1 x0 K8 m y12 (w64 (y6 + 1))) fun K18 =>
      (gi x0 y6).bind fun u20 =>
      bif u20 then
        ((apM y1 [y6]).bind fun q27 =>
        K18 q27)
      else
        (K18 y1))
    else
      (K8 y1 y6)

def impl_listOf (x0 : List Bool) : Option ((List Int)) :=
  jn (fun (y1 : List Int) (y6 : Int) =>
    some y1) fun K8 =>
  impl_listOf_l1 x0 K8 (((x0.length : Int) - 0).toNat + 1) ([] : List Int) 0

def impl_Repo_since_l2 (z33 : (List Int)) (K45 : Int → List Bool → Option ((List Int))) : Nat → Int → List Bool → Option ((List Int))
  | 0, _, _ => none
  | m + 1, y41, y42 =>
    bif decide ((y41 : Int) < ((z33.length : Int) : Int)) then
      ((gi z33 y41).bind fun u52 =>
      (gi y42 u52).bind fun u54 =>
      (siM y42 u52 false).bind fun q57 =>
      impl_Repo_since_l2 z33 K45 m (w64 (y41 + 1)) q57)
    else
      (K45 y41 y42)

def impl_Repo_since_l1 (x0 : Vm.Repo) (x2 : List Int) (K17 : Int → List Bool → Option ((List Int))) : Nat → Int → List Bool → Option ((List Int))
  | 0, _, _ => none
  | m + 1, y13, y14 =>
    bif decide ((y13 : Int) < ((x2.length : Int) : Int)) then
      ((gi x2 y13).bind fun u22 =>
      (Vm.impl_Repo_ancestors x0 u22).bind fun z27 =>
      (Vm.impl_listOf z27).bind fun z33 =>
      jn (fun (y41 : Int) (y42 : List Bool) =>
        impl_Repo_since_l1 x0 x2 K17 m (w64 (y13 + 1)) y42) fun K45 =>
      impl_Repo_since_l2 z33 K45 (((z33.length : Int) - 0).toNat + 1) 0 y14)
    else
      (K17 y13 y14)

def impl_Repo_since (x0 : Vm.Repo) (x1 : Int) (x2 : List Int) : Option ((List Int)) :=
  (Vm.impl_Repo_ancestors x0 x1).bind fun z5 =>
  jn (fun (y13 : Int) (y14 : List Bool) =>
    (Vm.impl_listOf y14).bind fun z63 =>
    some z63) fun K17 =>
  impl_Repo_since_l1 x0 x2 K17 (((x2.length : Int) - 0).toNat + 1) 0 z5

def impl_Repo_tree (x0 : Vm.Repo) (x1 : Int) : Option ((List Vm.File)) :=
  bif decide ((x1 : Int) < (0 : Int)) then
    (some ([] : List File))
  else
    ((gi x0.Commits x1).bind fun u4 =>
    some u4.Tree)

def slices_Index_int_int_l1 (x0 : List Int) (x1 : Int) (K5 : Int → Int → Option (Int)) : Nat → Int → Int → Option (Int)
  | 0, _, _ => none
  | m + 1, y1, y3 =>
    bif decide ((y3 : Int) < ((x0.length : Int) : Int)) then
      ((gi x0 y3).bind fun u9 =>
      bif ((x1 : Int) == (u9 : Int)) then
        (some y3)
      else
        (slices_Index_int_int_l1 x0 x1 K5 m y1 (w64 (y3 + 1))))
    else
      (K5 y1 y3)

def slices_Index_int_int (x0 : List Int) (x1 : Int) : Option (Int) :=
  jn (fun (y1 : Int) (y3 : Int) =>
    some (-1)) fun K5 =>
  slices_Index_int_int_l1 x0 x1 K5 (((x0.length : Int) - 0).toNat + 1) 0 0

def impl_SendOf_l2 (x1 : List Int) (z16 : (List Int)) (u211 : Vm.Commit) (K234 : List Vm.Commit → Bool → Int → List Int → Str → List Vm.File → Option ((List Vm.Commit) × Bool)) : Nat → List Vm.Commit → Bool → Int → List Int → Str → List Vm.File → Option ((List Vm.Commit) × Bool)
  | 0, _, _, _, _, _, _ => none
  | m + 1, y217, y220, y224, y225, y228, y229 =>
    bif decide ((y224 : Int) < ((u211.Parents.length : Int) : Int)) then
      (jn (fun (y241 : List Vm.Commit) (y244 : Bool) (y248 : List Int) (y251 : Str) (y252 : List Vm.File) =>
        impl_SendOf_l2 x1 z16 u211 K234 m y241 y244 (w64 (y224 + 1)) y248 y251 y252) fun K257 =>
      (gi u211.Parents y224).bind fun u262 =>
      (Vm.slices_Index_int_int z16 u262).bind fun z265 =>
      (Vm.slices_Index_int_int x1 u262).bind fun z277 =>
      bif decide ((0 : Int) ≤ (z265 : Int)) then
        ((apM y225 [z265]).bind fun q298 =>
        K257 y217 y220 q298 y228 y229)
      else
        (bif decide ((0 : Int) ≤ (z277 : Int)) then
          ((apM y225 [w64 ((-1) - z277)]).bind fun q328 =>
          K257 y217 y220 q328 y228 y229)
        else
          (some (([] : List Commit), false))))
    else
      (K234 y217 y220 y224 y225 y228 y229)

def impl_SendOf_l1 (x0 : Vm.Repo) (x1 : List Int) (z16 : (List Int)) (K35 : List Vm.Commit → Bool → List Vm.Commit → Int → Option ((List Vm.Commit) × Bool)) : Nat → List Vm.Commit → Bool → List Vm.Commit → Int → Option ((List Vm.Commit) × Bool)
  | 0, _, _, _, _ => none
  | m + 1, y21, y24, y25, y33 =>
    bif decide ((y33 : Int) < ((z16.length : Int) : Int)) then
      ((gi z16 y33).bind fun u41 =>
      (gi x0.Commits u41).bind fun u49 =>
      (Vm.impl_Repo_tree x0 u41).bind fun z53 =>
      (Vm.impl_copyTree z53).bind fun z62 =>
      (gi x0.Commits u41).bind fun u211 =>
      jn (fun (y217 : List Vm.Commit) (y220 : Bool) (y224 : Int) (y225 : List Int) (y228 : Str) (y229 : List Vm.File) =>
        (apM y25 [Vm.Commit.mk y225 y228 y229]).bind fun q357 =>
        impl_SendOf_l1 x0 x1 z16 K35 m y217 y220 q357 (w64 (y33 + 1))) fun K234 =>
      impl_SendOf_l2 x1 z16 u211 K234 (((u211.Parents.length : Int) - 0).toNat + 1) y21 y24 0 ([] : List Int) u49.Who z62)
    else
      (K35 y21 y24 y25 y33)

def impl_SendOf (x0 : Vm.Repo) (x1 : List Int) (x2 : Int) : Option ((List Vm.Commit) × Bool) :=
  (Vm.impl_Repo_areSuspect x0 x1 x2).bind fun z7 =>
  bif (!z7) then
    (some (([] : List Commit), false))
  else
    ((Vm.impl_Repo_since x0 x2 x1).bind fun z16 =>
    jn (fun (y21 : List Vm.Commit) (y24 : Bool) (y25 : List Vm.Commit) (y33 : Int) =>
      some (y25, true)) fun K35 =>
    impl_SendOf_l1 x0 x1 z16 K35 (((z16.length : Int) - 0).toNat + 1) ([] : List Commit) false ([] : List Commit) 0)

end Go.Vm
