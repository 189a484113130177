/- Models of the functions: plain Lean, printed by a program of ours. Conditions: none. -/
import Derived.Test.YtidkloialdageaaGreatDoorCLw
namespace Go.Vm
open Go Go.Sx
set_option linter.unusedVariables false
set_option linter.unusedSimpArgs false
def laws_smIn_l1 (x0 : List Int) (x1 : Int) (K4 : Bool → Int → Option (Bool)) : Nat → Bool → Int → Option (Bool)
 | 0, _, _ => none
 | m + 1, y1, y2 =>
 bif decide ((y2 : Int) < ((x0.length : Int) : Int)) then
 ((gi x0 y2).bind fun u9 =>
 bif ((u9 : Int) == (x1 : Int)) then
 (some true)
 else
 (laws_smIn_l1 x0 x1 K4 m y1 (w64 (y2 + 1))))
 else
 (K4 y1 y2)
def laws_smIn (x0 : List Int) (x1 : Int) : Option (Bool) :=
 jn (fun (y1 : Bool) (y2 : Int) =>
 some false) fun K4 =>
 laws_smIn_l1 x0 x1 K4 (((x0.length : Int) - 0).toNat + 1) false 0
end Go.Vm
