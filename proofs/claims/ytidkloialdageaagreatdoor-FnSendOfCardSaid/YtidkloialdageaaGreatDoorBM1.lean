/- Models of the functions: plain Lean, printed by a program of ours. Conditions: none. -/
import Derived.Test.YtidkloialdageaaGreatDoorBLw
import Derived.Test.YtidkloialdageaaGreatDoorBM0
namespace Go.Vm
open Go Go.Sx
set_option linter.unusedVariables false
set_option linter.unusedSimpArgs false

def spec_l12Any_l1 (x0 : Vm.Repo) (x1 : List Int) (K6 : Bool → Int → Option (Bool)) : Nat → Bool → Int → Option (Bool)
  | 0, _, _ => none
  | m + 1, y3, y4 =>
    bif decide ((y4 : Int) < ((x1.length : Int) : Int)) then
      ((gi x1 y4).bind fun u15 =>
      (Vm.spec_l1In u15 0 (w64 ((x0.Commits.length : Int) - 1))).bind fun z19 =>
      bif (!z19) then
        (some false)
      else
        (spec_l12Any_l1 x0 x1 K6 m y3 (w64 (y4 + 1))))
    else
      (K6 y3 y4)

def spec_l12Any (x0 : Vm.Repo) (x1 : List Int) : Option (Bool) :=
  jn (fun (y3 : Bool) (y4 : Int) =>
    some (decide (((x1.length : Int) : Int) ≤ (16 : Int)))) fun K6 =>
  spec_l12Any_l1 x0 x1 K6 (((x1.length : Int) - 0).toNat + 1) false 0

def spec_l12Left_l2 (x0 : Vm.Repo) (x1 : List Int) (z5 : (List Int)) (y17 : Int) (K40 : Bool → Int → Option ((List Int))) : Nat → Bool → Int → Option ((List Int))
  | 0, _, _ => none
  | m + 1, y37, y38 =>
    bif decide ((y38 : Int) < ((x1.length : Int) : Int)) then
      (bif y37 then
        ((gi x1 y38).bind fun u54 =>
        (gi z5 y17).bind fun u57 =>
        (Vm.spec_l8All x0 u54).bind fun z61 =>
        (Vm.spec_l8Has z61 u57).bind fun z68 =>
        spec_l12Left_l2 x0 x1 z5 y17 K40 m (!z68) (w64 (y38 + 1)))
      else
        (spec_l12Left_l2 x0 x1 z5 y17 K40 m false (w64 (y38 + 1))))
    else
      (K40 y37 y38)

def spec_l12Left_l1 (x0 : Vm.Repo) (x1 : List Int) (z5 : (List Int)) (K21 : List Int → Int → Option ((List Int))) : Nat → List Int → Int → Option ((List Int))
  | 0, _, _ => none
  | m + 1, y14, y17 =>
    bif decide ((y17 : Int) < ((z5.length : Int) : Int)) then
      (jn (fun (y27 : List Int) =>
        spec_l12Left_l1 x0 x1 z5 K21 m y27 (w64 (y17 + 1))) fun K33 =>
      jn (fun (y37 : Bool) (y38 : Int) =>
        bif y37 then
          ((gi z5 y17).bind fun u77 =>
          (apM y14 [u77]).bind fun q84 =>
          K33 q84)
        else
          (K33 y14)) fun K40 =>
      spec_l12Left_l2 x0 x1 z5 y17 K40 (((x1.length : Int) - 0).toNat + 1) true 0)
    else
      (K21 y14 y17)

def spec_l12Left (x0 : Vm.Repo) (x1 : List Int) (x2 : Int) : Option ((List Int)) :=
  (Vm.spec_l8All x0 x2).bind fun z5 =>
  jn (fun (y14 : List Int) (y17 : Int) =>
    some y14) fun K21 =>
  spec_l12Left_l1 x0 x1 z5 K21 (((z5.length : Int) - 0).toNat + 1) ([] : List Int) 0

def spec_l15New (x0 : Vm.Repo) (x1 : List Int) (x2 : Int) : Option ((List Int)) :=
  (Vm.spec_l12Left x0 x1 x2).bind fun z6 =>
  some z6

def spec_l14Place_l1 (x0 : List Int) (x1 : Int) (K4 : Int → Int → Option (Int)) : Nat → Int → Int → Option (Int)
  | 0, _, _ => none
  | m + 1, y1, y2 =>
    bif decide ((y2 : Int) < ((x0.length : Int) : Int)) then
      ((gi x0 y2).bind fun u9 =>
      bif ((u9 : Int) == (x1 : Int)) then
        (some y2)
      else
        (spec_l14Place_l1 x0 x1 K4 m y1 (w64 (y2 + 1))))
    else
      (K4 y1 y2)

def spec_l14Place (x0 : List Int) (x1 : Int) : Option (Int) :=
  jn (fun (y1 : Int) (y2 : Int) =>
    some (-1)) fun K4 =>
  spec_l14Place_l1 x0 x1 K4 (((x0.length : Int) - 0).toNat + 1) 0 0

def spec_SendOf_l2 (x1 : List Int) (z16 : (List Int)) (K210 : List Vm.Commit → Bool → Int → List Int → Option ((List Vm.Commit) × Bool)) : Nat → List Vm.Commit → Bool → Int → List Int → Option ((List Vm.Commit) × Bool)
  | 0, _, _, _, _ => none
  | m + 1, y200, y203, y204, y207 =>
    bif decide ((y204 : Int) < ((y207.length : Int) : Int)) then
      (jn (fun (y219 : List Vm.Commit) (y222 : Bool) (y225 : List Int) =>
        spec_SendOf_l2 x1 z16 K210 m y219 y222 (w64 (y204 + 1)) y225) fun K228 =>
      (gi y207 y204).bind fun u235 =>
      (Vm.spec_l14Place z16 u235).bind fun z237 =>
      (gi y207 y204).bind fun u248 =>
      (Vm.spec_l14Place x1 u248).bind fun z251 =>
      jn (fun (y262 : Bool) =>
        bif y262 then
          (some (([] : List Commit), false))
        else
          ((gi y207 y204).bind fun u274 =>
          (siM y207 y204 z237).bind fun q277 =>
          bif decide ((z237 : Int) < (0 : Int)) then
            ((gi q277 y204).bind fun u287 =>
            (siM q277 y204 (w64 ((-1) - z251))).bind fun q290 =>
            K228 y200 y203 q290)
          else
            (K228 y200 y203 q277))) fun K264 =>
      bif decide ((z237 : Int) < (0 : Int)) then
        (K264 (decide ((z251 : Int) < (0 : Int))))
      else
        (K264 false))
    else
      (K210 y200 y203 y204 y207)

def spec_SendOf_l1 (x0 : Vm.Repo) (x1 : List Int) (z16 : (List Int)) (K35 : List Vm.Commit → Bool → List Vm.Commit → Int → Option ((List Vm.Commit) × Bool)) : Nat → List Vm.Commit → Bool → List Vm.Commit → Int → Option ((List Vm.Commit) × Bool)
  | 0, _, _, _, _ => none
  | m + 1, y22, y25, y26, y29 =>
    bif decide ((y29 : Int) < ((z16.length : Int) : Int)) then
      ((gi z16 y29).bind fun u47 =>
      (gi x0.Commits u47).bind fun u49 =>
      (Vm.spec_l7CopyCommit u49).bind fun z59 =>
      jn (fun (y200 : List Vm.Commit) (y203 : Bool) (y204 : Int) (y207 : List Int) =>
        (apM y26 [Vm.Commit.mk y207 z59.Who z59.Tree]).bind fun q309 =>
        spec_SendOf_l1 x0 x1 z16 K35 m y200 y203 q309 (w64 (y29 + 1))) fun K210 =>
      spec_SendOf_l2 x1 z16 K210 (((z59.Parents.length : Int) - 0).toNat + 1) y22 y25 0 z59.Parents)
    else
      (K35 y22 y25 y26 y29)

def spec_SendOf (x0 : Vm.Repo) (x1 : List Int) (x2 : Int) : Option ((List Vm.Commit) × Bool) :=
  jn (fun (y6 : Bool) =>
    bif y6 then
      (some (([] : List Commit), false))
    else
      ((Vm.spec_l15New x0 x1 x2).bind fun z16 =>
      jn (fun (y22 : List Vm.Commit) (y25 : Bool) (y26 : List Vm.Commit) (y29 : Int) =>
        some (y26, true)) fun K35 =>
      spec_SendOf_l1 x0 x1 z16 K35 (((z16.length : Int) - 0).toNat + 1) ([] : List Commit) false ([] : List Commit) 0)) fun K8 =>
  (Vm.spec_l7Ok x0).bind fun z320 =>
  bif (!z320) then
    (K8 true)
  else
    ((Vm.spec_l12Any x0 x1).bind fun z330 =>
    bif (!z330) then
      (K8 true)
    else
      ((Vm.spec_l1In x2 0 (w64 ((x0.Commits.length : Int) - 1))).bind fun z338 =>
      K8 (!z338)))

def laws_smCommit (x0 : Vm.Commit) (x1 : Vm.Commit) : Option (Bool) :=
  jn (fun (y6 : Bool) =>
    some y6) fun K8 =>
  bif (x0.Who == x1.Who) then
    ((Vm.laws_smInts x0.Parents x1.Parents).bind fun z15 =>
    bif z15 then
      ((Vm.laws_smTree x0.Tree x1.Tree).bind fun z24 =>
      K8 z24)
    else
      (K8 false))
  else
    (K8 false)

end Go.Vm
