/- Models of the functions: plain Lean, printed by a program of ours. Conditions: none. -/
import Derived.Test.YtkfeiopifiejgaaGreatDoorXLw
namespace Go.Vm
open Go Go.Sx
set_option linter.unusedVariables false
set_option linter.unusedSimpArgs false

def impl_listOf_l1 (x0 : List Bool) (K8 : List Int → Int → Option ((List Int))) : Nat → List Int → Int → Option ((List Int))
  | 0, _, _ => none
  | m + 1, y1, y6 =>
    bif decide ((y6 : Int) < ((x0.length : Int) : Int)) then
      (jn (fun (y12 : List Int) =>
        impl_listOf_l1 x0 K8 m y12 (w64 (y6 + 1))) fun K18 =>
      (gi x0 y6).bind fun u20 =>
      bif u20 then
        ((apM y1 [y6]).bind fun q27 =>
        K18 q27)
      else
        (K18 y1))
    else
      (K8 y1 y6)

def impl_listOf (x0 : List Bool) : Option ((List Int)) :=
  jn (fun (y1 : List Int) (y6 : Int) =>
    some y1) fun K8 =>
  impl_listOf_l1 x0 K8 (((x0.length : Int) - 0).toNat + 1) ([] : List Int) 0

end Go.Vm
