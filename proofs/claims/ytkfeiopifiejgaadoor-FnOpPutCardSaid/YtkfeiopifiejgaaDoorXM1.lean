/- Models of the functions: plain Lean, printed by a program of ours. Conditions: none. -/
import Derived.Test.YtkfeiopifiejgaaDoorXLw
import Derived.Test.YtkfeiopifiejgaaDoorXM0
namespace Go.Vm
open Go Go.Sx
set_option linter.unusedVariables false
set_option linter.unusedSimpArgs false

def spec_l30AnyOp (x0 : Vm.l30Rd) : Option (Vm.Op × Int) :=
  (Vm.spec_l30Op x0).bind fun z5 =>
  jn (fun (y20 : Int) (y22 : Int) (y23 : Str) (y24 : Str) (y25 : Str) (y26 : Str) (y27 : Int) (y28 : List Str) =>
    some (Vm.Op.mk y22 y23 y24 y25 y26 y27 y28, y20)) fun K33 =>
  (Vm.spec_l30Rd_pick (Vm.l30Rd.mk x0.b z5.2) 16).bind fun z47 =>
  bif ((z47.1 : Int) == (0 : Int)) then
    ((Vm.spec_l30Rd_one (Vm.l30Rd.mk x0.b z47.2) ([0, 8, 1] : List Int)).bind fun z62 =>
    K33 z62.2 z62.1 z5.1.Branch z5.1.Who z5.1.Path z5.1.To z5.1.At z5.1.Text)
  else
    (bif ((z47.1 : Int) == (1 : Int)) then
      ((Vm.spec_l30Rd_of (Vm.l30Rd.mk x0.b z47.2) ([([] : Str), ([77, 97, 105, 110] : Str)] : List Str)).bind fun z84 =>
      K33 z84.2 z5.1.Kind z84.1 z5.1.Who z5.1.Path z5.1.To z5.1.At z5.1.Text)
    else
      (bif ((z47.1 : Int) == (2 : Int)) then
        ((apM z5.1.Text ([([97, 124, 98] : Str)])).bind fun q105 =>
        K33 z47.2 z5.1.Kind z5.1.Branch z5.1.Who z5.1.Path z5.1.To z5.1.At q105)
      else
        (bif ((z47.1 : Int) == (3 : Int)) then
          ((Vm.spec_l30Rd_one (Vm.l30Rd.mk x0.b z47.2) ([(-1), 16] : List Int)).bind fun z127 =>
          K33 z127.2 z5.1.Kind z5.1.Branch z5.1.Who z5.1.Path z5.1.To z127.1 z5.1.Text)
        else
          (K33 z47.2 z5.1.Kind z5.1.Branch z5.1.Who z5.1.Path z5.1.To z5.1.At z5.1.Text))))

def spec_DrawOpPut (x0 : List Byte) : Option (Vm.Op) :=
  (Vm.spec_l30Open x0).bind fun z4 =>
  (Vm.spec_l30AnyOp z4).bind fun z10 =>
  some (Vm.Op.mk z10.1.Kind z10.1.Branch z10.1.Who z10.1.Path z10.1.To z10.1.At z10.1.Text)

def spec_OpOk (x0 : Vm.Op) : Option (Bool) :=
  (Vm.spec_l19Ok x0).bind fun z4 =>
  some z4

def laws_FnOpPut (x0 : List Byte) : Option (Bool) :=
  bif decide ((1048576 : Int) < ((x0.length : Int) : Int)) then
    (some true)
  else
    ((Vm.spec_DrawOpPut x0).bind fun z2 =>
    (Vm.impl_OpPut (Vm.Op.mk z2.Kind z2.Branch z2.Who z2.Path z2.To z2.At z2.Text)).bind fun z13 =>
    jn (fun (y19 : Bool) =>
      bif y19 then
        (jn (fun (y26 : Bool) =>
          some y26) fun K28 =>
        (Vm.spec_OpPut (Vm.Op.mk z2.Kind z2.Branch z2.Who z2.Path z2.To z2.At z2.Text)).bind fun z36 =>
        bif (z13 == z36) then
          ((Vm.impl_OpOk (Vm.Op.mk z2.Kind z2.Branch z2.Who z2.Path z2.To z2.At z2.Text)).bind fun z44 =>
          (Vm.spec_OpOk (Vm.Op.mk z2.Kind z2.Branch z2.Who z2.Path z2.To z2.At z2.Text)).bind fun z50 =>
          bif (z44 == z50) then
            ((Vm.impl_OpOk (Vm.Op.mk z2.Kind z2.Branch z2.Who z2.Path z2.To z2.At z2.Text)).bind fun z58 =>
            K28 (!z58))
          else
            (K28 false))
        else
          (K28 false))
      else
        ((Vm.impl_OpGet z13).bind fun z65 =>
        jn (fun (y80 : Bool) =>
          some y80) fun K82 =>
        bif z65.2 then
          ((Vm.laws_smOp z65.1 (Vm.Op.mk z2.Kind z2.Branch z2.Who z2.Path z2.To z2.At z2.Text)).bind fun z89 =>
          K82 z89)
        else
          (K82 false))) fun K21 =>
    (Vm.spec_OpPut (Vm.Op.mk z2.Kind z2.Branch z2.Who z2.Path z2.To z2.At z2.Text)).bind fun z100 =>
    bif (z13 != z100) then
      (K21 true)
    else
      ((Vm.impl_OpOk (Vm.Op.mk z2.Kind z2.Branch z2.Who z2.Path z2.To z2.At z2.Text)).bind fun z108 =>
      (Vm.spec_OpOk (Vm.Op.mk z2.Kind z2.Branch z2.Who z2.Path z2.To z2.At z2.Text)).bind fun z114 =>
      bif (z108 != z114) then
        (K21 true)
      else
        (K21 (z13 == ([] : Str)))))

end Go.Vm
