/- Models of the functions: plain Lean, printed by a program of ours. Conditions: none. -/
import Derived.Test.YtkfeiopifiejgaaDoorXLw
import Derived.Test.YtkfeiopifiejgaaDoorXM0
namespace Go.Vm
open Go Go.Sx
set_option linter.unusedVariables false
set_option linter.unusedSimpArgs false

def spec_l30Bent (x0 : Vm.l30Rd) (x1 : Str) : Option (Str × Int) :=
  (Vm.spec_l30Rd_pick x0 (w64 ((x1.length : Int) + 1))).bind fun z1 =>
  jn (fun (y5 : Str) (y6 : Int) =>
    some (x1, y6)) fun K9 =>
  (Vm.spec_l30Rd_pick (Vm.l30Rd.mk x0.b z1.2) 5).bind fun z12 =>
  bif ((z12.1 : Int) == (0 : Int)) then
    (bif decide ((z1.1 : Int) < ((x1.length : Int) : Int)) then
      ((slM x1 0 z1.1).bind fun q21 =>
      (slM x1 (w64 (z1.1 + 1)) (x1.length : Int)).bind fun q23 =>
      (Vm.spec_l30Rd_of (Vm.l30Rd.mk x0.b z12.2) ([([48] : Str), ([49] : Str), ([32] : Str), ([45] : Str), ([43] : Str), ([10] : Str), ([64] : Str), ([124] : Str), ([120] : Str)] : List Str)).bind fun z29 =>
      (saM q21 z29.1).bind fun q34 =>
      (saM q34 q23).bind fun q36 =>
      some (q36, z29.2))
    else
      (K9 ([] : Str) z12.2))
  else
    (bif ((z12.1 : Int) == (1 : Int)) then
      ((slM x1 0 z1.1).bind fun q39 =>
      some (q39, z12.2))
    else
      (bif ((z12.1 : Int) == (2 : Int)) then
        ((Vm.spec_l30Rd_of (Vm.l30Rd.mk x0.b z12.2) ([([48] : Str), ([32] : Str), ([10] : Str), ([124] : Str), ([43, 120, 10] : Str)] : List Str)).bind fun z46 =>
        (saM x1 z46.1).bind fun q51 =>
        some (q51, z46.2))
      else
        (K9 ([] : Str) z12.2)))

def spec_DrawOpGet (x0 : List Byte) : Option (Str) :=
  (Vm.spec_l30Open x0).bind fun z1 =>
  (Vm.spec_l30Op z1).bind fun z6 =>
  (Vm.spec_OpPut (Vm.Op.mk z6.1.Kind z6.1.Branch z6.1.Who z6.1.Path z6.1.To z6.1.At z6.1.Text)).bind fun z10 =>
  (Vm.spec_l30Rd_pick (Vm.l30Rd.mk z1.b z6.2) 2).bind fun z17 =>
  bif ((z17.1 : Int) == (0 : Int)) then
    (some z10)
  else
    ((Vm.spec_l30Bent (Vm.l30Rd.mk z1.b z17.2) z10).bind fun z24 =>
    some z24.1)

def spec_l1Num_l1 (x0 : Str) (K5 : Int → Int → Int → Option (Int)) : Nat → Int → Int → Int → Option (Int)
  | 0, _, _, _ => none
  | m + 1, y1, y2, y3 =>
    bif decide ((y3 : Int) < ((x0.length : Int) : Int)) then
      (jn (fun (y9 : Bool) =>
        bif y9 then
          (some (-1))
        else
          ((chM x0 y3).bind fun u14 =>
          spec_l1Num_l1 x0 K5 m y1 (w64 ((w64 (y2 * 10)) + (w64 (IntKind.u8.wrap ((UInt8.toNat u14 : Int) - 48))))) (w64 (y3 + 1)))) fun K11 =>
      (chM x0 y3).bind fun u16 =>
      bif decide (((UInt8.toNat u16 : Int) : Int) < (48 : Int)) then
        (K11 true)
      else
        ((chM x0 y3).bind fun u19 =>
        bif decide ((57 : Int) < ((UInt8.toNat u19 : Int) : Int)) then
          (K11 true)
        else
          (K11 (decide ((6 : Int) ≤ (y3 : Int))))))
    else
      (K5 y1 y2 y3)

def spec_l1Num (x0 : Str) : Option (Int) :=
  jn (fun (y1 : Int) (y2 : Int) (y3 : Int) =>
    jn (fun (y22 : Bool) =>
      bif y22 then
        (some (-1))
      else
        (some y2)) fun K24 =>
    bif (((x0.length : Int) : Int) == (0 : Int)) then
      (K24 true)
    else
      (bif decide ((1 : Int) < ((x0.length : Int) : Int)) then
        ((chM x0 0).bind fun u29 =>
        K24 (((UInt8.toNat u29 : Int) : Int) == (48 : Int)))
      else
        (K24 false))) fun K5 =>
  spec_l1Num_l1 x0 K5 (((x0.length : Int) - 0).toNat + 1) 0 0 0

def spec_OpGet_l1 (z3 : (List Str)) (K40 : Int → Int → Str → Str → Str → Str → Int → List Str → Option (Vm.Op × Bool)) : Nat → Int → Int → Str → Str → Str → Str → Int → List Str → Option (Vm.Op × Bool)
  | 0, _, _, _, _, _, _, _, _ => none
  | m + 1, y28, y29, y30, y31, y32, y33, y34, y35 =>
    (Vm.spec_l19Words).bind fun z45 =>
    bif decide ((y28 : Int) < ((z45.length : Int) : Int)) then
      (jn (fun (y54 : Int) (y55 : Str) (y56 : Str) (y57 : Str) (y58 : Str) (y59 : Int) (y60 : List Str) =>
        spec_OpGet_l1 z3 K40 m (w64 (y28 + 1)) y54 y55 y56 y57 y58 y59 y60) fun K65 =>
      (Vm.spec_l19Words).bind fun z77 =>
      (gi z77 y28).bind fun u86 =>
      (gi z3 0).bind fun u88 =>
      bif (u86 == u88) then
        (K65 y28 y30 y31 y32 y33 y34 y35)
      else
        (K65 y29 y30 y31 y32 y33 y34 y35))
    else
      (K40 y28 y29 y30 y31 y32 y33 y34 y35)

def spec_OpGet (x0 : Str) : Option (Vm.Op × Bool) :=
  (Vm.spec_l1Cut x0 (UInt8.ofNatLT 32 (by decide) : Byte) 4).bind fun z3 =>
  bif decide (((z3.length : Int) : Int) < (4 : Int)) then
    (some (Vm.Op.mk 0 ([] : Str) ([] : Str) ([] : Str) ([] : Str) 0 ([] : List Str), false))
  else
    ((gi z3 1).bind fun u16 =>
    (gi z3 2).bind fun u18 =>
    jn (fun (y28 : Int) (y29 : Int) (y30 : Str) (y31 : Str) (y32 : Str) (y33 : Str) (y34 : Int) (y35 : List Str) =>
      jn (fun (y178 : Str) =>
        jn (fun (y194 : Int) (y195 : Str) (y196 : Str) (y197 : Str) (y198 : Str) (y199 : Int) (y200 : List Str) =>
          jn (fun (y210 : Bool) =>
            bif y210 then
              (some (Vm.Op.mk 0 ([] : Str) ([] : Str) ([] : Str) ([] : Str) 0 ([] : List Str), false))
            else
              (some (Vm.Op.mk y194 y195 y196 y197 y198 y199 y200, true))) fun K212 =>
          (Vm.spec_l19Ok (Vm.Op.mk y194 y195 y196 y197 y198 y199 y200)).bind fun z230 =>
          bif (!z230) then
            (K212 true)
          else
            ((Vm.spec_l19Put (Vm.Op.mk y194 y195 y196 y197 y198 y199 y200)).bind fun z240 =>
            K212 (z240 != x0))) fun K205 =>
        bif ((y29 : Int) == (1 : Int)) then
          ((gi z3 3).bind fun u249 =>
          (Vm.spec_l1Cut y178 (UInt8.ofNatLT 124 (by decide) : Byte) 11).bind fun z256 =>
          (slM z256 1 (z256.length : Int)).bind fun q264 =>
          K205 y29 y30 y31 u249 y33 y34 q264)
        else
          (bif ((y29 : Int) == (2 : Int)) then
            ((gi z3 3).bind fun u284 =>
            K205 y29 y30 y31 u284 y33 y34 y35)
          else
            (bif ((y29 : Int) == (3 : Int)) then
              ((gi z3 3).bind fun u293 =>
              K205 y29 y30 y31 u293 y178 y34 y35)
            else
              (jn (fun (y306 : Bool) =>
                bif y306 then
                  ((gi z3 3).bind fun u315 =>
                  K205 y29 y30 y31 y32 u315 y34 y35)
                else
                  ((gi z3 3).bind fun u323 =>
                  (Vm.spec_l1Num u323).bind fun z325 =>
                  K205 y29 y30 y31 y32 y33 z325 y35)) fun K308 =>
              bif ((y29 : Int) == (4 : Int)) then
                (K308 ((y29 : Int) == (4 : Int)))
              else
                (K308 ((y29 : Int) == (5 : Int))))))) fun K180 =>
      bif (((z3.length : Int) : Int) == (5 : Int)) then
        ((gi z3 4).bind fun u341 =>
        K180 u341)
      else
        (K180 ([] : Str))) fun K40 =>
    spec_OpGet_l1 z3 K40 (8) 1 0 u16 u18 ([] : Str) ([] : Str) 0 ([] : List Str))

def laws_FnOpGet (x0 : List Byte) : Option (Bool) :=
  bif decide ((1048576 : Int) < ((x0.length : Int) : Int)) then
    (some true)
  else
    ((Vm.spec_DrawOpGet x0).bind fun z2 =>
    (Vm.impl_OpGet z2).bind fun z7 =>
    (Vm.spec_OpGet z2).bind fun z16 =>
    jn (fun (y28 : Bool) =>
      bif y28 then
        (jn (fun (y35 : Bool) =>
          some y35) fun K37 =>
        bif (z7.2 == z16.2) then
          ((Vm.laws_smOp z7.1 z16.1).bind fun z44 =>
          K37 z44)
        else
          (K37 false))
      else
        ((Vm.impl_OpPut z7.1).bind fun z52 =>
        some (z52 == z2))) fun K30 =>
    bif (z7.2 != z16.2) then
      (K30 true)
    else
      ((Vm.laws_smOp z7.1 z16.1).bind fun z61 =>
      bif (!z61) then
        (K30 true)
      else
        (K30 (!z7.2))))

end Go.Vm
