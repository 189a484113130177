/- Models of the functions: plain Lean, printed by a program of ours. Conditions: none. -/
import Derived.Test.YtkfeiopifiejgaaGreatDoorXLw
import Derived.Test.YtkfeiopifiejgaaGreatDoorXM0
import Derived.Test.YtkfeiopifiejgaaGreatDoorXM2
import Derived.Test.YtkfeiopifiejgaaGreatDoorXM6
namespace Go.Vm
open Go Go.Sx
set_option linter.unusedVariables false
set_option linter.unusedSimpArgs false

def spec_l30Some_l1 (x0 : Vm.l30Rd) (x1 : Vm.Repo) (K22 : List Int → Int → Int → Option ((List Int) × Int)) : Nat → List Int → Int → Int → Option ((List Int) × Int)
  | 0, _, _, _ => none
  | m + 1, y15, y18, y19 =>
    bif decide ((0 : Int) < (y18 : Int)) then
      ((Vm.spec_l30Rd_pick (Vm.l30Rd.mk x0.b y19) (x1.Commits.length : Int)).bind fun z29 =>
      (apM y15 [z29.1]).bind fun q40 =>
      spec_l30Some_l1 x0 x1 K22 m q40 (w64 (y18 - 1)) z29.2)
    else
      (K22 y15 y18 y19)

def spec_l30Some (x0 : Vm.l30Rd) (x1 : Vm.Repo) : Option ((List Int) × Int) :=
  (Vm.spec_l30Rd_pick x0 4).bind fun z9 =>
  jn (fun (y15 : List Int) (y18 : Int) (y19 : Int) =>
    (Vm.spec_l30Rd_pick (Vm.l30Rd.mk x0.b y19) 14).bind fun z48 =>
    bif ((z48.1 : Int) == (0 : Int)) then
      ((apM y15 [(-1)]).bind fun q60 =>
      some (q60, z48.2))
    else
      (some (y15, z48.2))) fun K22 =>
  spec_l30Some_l1 x0 x1 K22 ((z9.1 - 0).toNat + 1) ([] : List Int) z9.1 z9.2

def spec_DrawLogLeft (x0 : List Byte) : Option (Vm.Repo × (List Int) × Int) :=
  (Vm.spec_l30Open x0).bind fun z4 =>
  (Vm.spec_l30AnyRepo z4).bind fun z10 =>
  (Vm.spec_l30Some (Vm.l30Rd.mk z4.b z10.2) (Vm.Repo.mk z10.1.Commits z10.1.Heads)).bind fun z28 =>
  (Vm.spec_l30At (Vm.l30Rd.mk z4.b z28.2) (Vm.Repo.mk z10.1.Commits z10.1.Heads)).bind fun z45 =>
  some (Vm.Repo.mk z10.1.Commits z10.1.Heads, z28.1, z45.1)

def impl_Repo_areSuspect (x0 : Vm.Repo) (x1 : List Int) (x2 : Int) : Option (Bool) :=
  jn (fun (y3 : Bool) =>
    some y3) fun K5 =>
  (Vm.impl_Repo_are x0 x1).bind fun z12 =>
  bif z12 then
    (bif decide (((x1.length : Int) : Int) ≤ (16 : Int)) then
      ((Vm.impl_Repo_exists x0 x2).bind fun z22 =>
      K5 z22)
    else
      (K5 false))
  else
    (K5 false)

def impl_LogLeft (x0 : Vm.Repo) (x1 : List Int) (x2 : Int) : Option ((List Int)) :=
  (Vm.impl_Repo_areSuspect x0 x1 x2).bind fun z7 =>
  bif (!z7) then
    (some ([] : List Int))
  else
    ((Vm.impl_Repo_since x0 x2 x1).bind fun z16 =>
    some z16)

def spec_l12Any_l1 (x0 : Vm.Repo) (x1 : List Int) (K6 : Bool → Int → Option (Bool)) : Nat → Bool → Int → Option (Bool)
  | 0, _, _ => none
  | m + 1, y3, y4 =>
    bif decide ((y4 : Int) < ((x1.length : Int) : Int)) then
      ((gi x1 y4).bind fun u15 =>
      (Vm.spec_l1In u15 0 (w64 ((x0.Commits.length : Int) - 1))).bind fun z19 =>
      bif (!z19) then
        (some false)
      else
        (spec_l12Any_l1 x0 x1 K6 m y3 (w64 (y4 + 1))))
    else
      (K6 y3 y4)

def spec_l12Any (x0 : Vm.Repo) (x1 : List Int) : Option (Bool) :=
  jn (fun (y3 : Bool) (y4 : Int) =>
    some (decide (((x1.length : Int) : Int) ≤ (16 : Int)))) fun K6 =>
  spec_l12Any_l1 x0 x1 K6 (((x1.length : Int) - 0).toNat + 1) false 0

def spec_l12Left_l2 (x0 : Vm.Repo) (x1 : List Int) (z5 : (List Int)) (y17 : Int) (K40 : Bool → Int → Option ((List Int))) : Nat → Bool → Int → Option ((List Int))
  | 0, _, _ => none
  | m + 1, y37, y38 =>
    bif decide ((y38 : Int) < ((x1.length : Int) : Int)) then
      (bif y37 then
        ((gi x1 y38).bind fun u54 =>
        (gi z5 y17).bind fun u57 =>
        (Vm.spec_l8All x0 u54).bind fun z61 =>
        (Vm.spec_l8Has z61 u57).bind fun z68 =>
        spec_l12Left_l2 x0 x1 z5 y17 K40 m (!z68) (w64 (y38 + 1)))
      else
        (spec_l12Left_l2 x0 x1 z5 y17 K40 m false (w64 (y38 + 1))))
    else
      (K40 y37 y38)

def spec_l12Left_l1 (x0 : Vm.Repo) (x1 : List Int) (z5 : (List Int)) (K21 : List Int → Int → Option ((List Int))) : Nat → List Int → Int → Option ((List Int))
  | 0, _, _ => none
  | m + 1, y14, y17 =>
    bif decide ((y17 : Int) < ((z5.length : Int) : Int)) then
      (jn (fun (y27 : List Int) =>
        spec_l12Left_l1 x0 x1 z5 K21 m y27 (w64 (y17 + 1))) fun K33 =>
      jn (fun (y37 : Bool) (y38 : Int) =>
        bif y37 then
          ((gi z5 y17).bind fun u77 =>
          (apM y14 [u77]).bind fun q84 =>
          K33 q84)
        else
          (K33 y14)) fun K40 =>
      spec_l12Left_l2 x0 x1 z5 y17 K40 (((x1.length : Int) - 0).toNat + 1) true 0)
    else
      (K21 y14 y17)

def spec_l12Left (x0 : Vm.Repo) (x1 : List Int) (x2 : Int) : Option ((List Int)) :=
  (Vm.spec_l8All x0 x2).bind fun z5 =>
  jn (fun (y14 : List Int) (y17 : Int) =>
    some y14) fun K21 =>
  spec_l12Left_l1 x0 x1 z5 K21 (((z5.length : Int) - 0).toNat + 1) ([] : List Int) 0

def spec_LogLeft (x0 : Vm.Repo) (x1 : List Int) (x2 : Int) : Option ((List Int)) :=
  jn (fun (y3 : Bool) =>
    bif y3 then
      (some ([] : List Int))
    else
      ((Vm.spec_l12Left x0 x1 x2).bind fun z12 =>
      some z12)) fun K5 =>
  (Vm.spec_l7Ok x0).bind fun z19 =>
  bif (!z19) then
    (K5 true)
  else
    ((Vm.spec_l1In x2 0 (w64 ((x0.Commits.length : Int) - 1))).bind fun z26 =>
    bif (!z26) then
      (K5 true)
    else
      ((Vm.spec_l12Any x0 x1).bind fun z35 =>
      K5 (!z35)))

end Go.Vm
