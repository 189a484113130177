/- Models of the functions: plain Lean, printed by a program of ours. Conditions: none. -/
import Derived.Test.YtkfeiopifiejgaaGreatDoorXLw
namespace Go.Vm
open Go Go.Sx
set_option linter.unusedVariables false
set_option linter.unusedSimpArgs false

def laws_smInts_l1 (x0 : List Int) (x1 : List Int) (K5 : Bool → Int → Option (Bool)) : Nat → Bool → Int → Option (Bool)
  | 0, _, _ => none
  | m + 1, y2, y3 =>
    bif decide ((y3 : Int) < ((x0.length : Int) : Int)) then
      ((gi x0 y3).bind fun u12 =>
      (gi x1 y3).bind fun u15 =>
      bif ((u12 : Int) != (u15 : Int)) then
        (some false)
      else
        (laws_smInts_l1 x0 x1 K5 m y2 (w64 (y3 + 1))))
    else
      (K5 y2 y3)

def laws_smInts (x0 : List Int) (x1 : List Int) : Option (Bool) :=
  bif (((x0.length : Int) : Int) != ((x1.length : Int) : Int)) then
    (some false)
  else
    (jn (fun (y2 : Bool) (y3 : Int) =>
      some true) fun K5 =>
    laws_smInts_l1 x0 x1 K5 (((x0.length : Int) - 0).toNat + 1) false 0)

end Go.Vm
