/- Models of the functions: plain Lean, printed by a program of ours. Conditions: none. -/
import Derived.Test.YtmjjhnahdmlmaaaDoorXTy
import Derived.Lib.SplitLaws
import Derived.Lib.IndexMore
import Derived.Lib.Join
import Derived.Lib.ItoaNum
namespace Go.Vm
open Go Go.Sx
set_option linter.unusedVariables false
set_option linter.unusedSimpArgs false

def laws_szStringS_l1 (x0 : List Str) (K6 : Int → Int → Int → Option (Int)) : Nat → Int → Int → Int → Option (Int)
  | 0, _, _, _ => none
  | m + 1, y2, y3, y4 =>
    bif decide ((y4 : Int) < ((x0.length : Int) : Int)) then
      ((gi x0 y4).bind fun u11 =>
      bif decide ((w64 (y2 - (u11.length : Int)) : Int) < (0 : Int)) then
        (some (-1))
      else
        (laws_szStringS_l1 x0 K6 m (w64 (y2 - (u11.length : Int))) y3 (w64 (y4 + 1))))
    else
      (K6 y2 y3 y4)

def laws_szStringS (x0 : List Str) (x1 : Int) : Option (Int) :=
  bif decide ((w64 (x1 - (x0.length : Int)) : Int) < (0 : Int)) then
    (some (-1))
  else
    (jn (fun (y2 : Int) (y3 : Int) (y4 : Int) =>
      some y2) fun K6 =>
    laws_szStringS_l1 x0 K6 (((x0.length : Int) - 0).toNat + 1) (w64 (x1 - (x0.length : Int))) 0 0)

def laws_szOp (x0 : Vm.Op) (x1 : Int) : Option (Int) :=
  bif decide ((w64 (x1 - (x0.Branch.length : Int)) : Int) < (0 : Int)) then
    (some (-1))
  else
    (bif decide ((w64 ((w64 (x1 - (x0.Branch.length : Int))) - (x0.Who.length : Int)) : Int) < (0 : Int)) then
      (some (-1))
    else
      (bif decide ((w64 ((w64 ((w64 (x1 - (x0.Branch.length : Int))) - (x0.Who.length : Int))) - (x0.Path.length : Int)) : Int) < (0 : Int)) then
        (some (-1))
      else
        (bif decide ((w64 ((w64 ((w64 ((w64 (x1 - (x0.Branch.length : Int))) - (x0.Who.length : Int))) - (x0.Path.length : Int))) - (x0.To.length : Int)) : Int) < (0 : Int)) then
          (some (-1))
        else
          ((Vm.laws_szStringS x0.Text (w64 ((w64 ((w64 ((w64 (x1 - (x0.Branch.length : Int))) - (x0.Who.length : Int))) - (x0.Path.length : Int))) - (x0.To.length : Int)))).bind fun z8 =>
          bif decide ((z8 : Int) < (0 : Int)) then
            (some (-1))
          else
            (some z8)))))

def laws_toStringS_l1 (x0 : List Str) (K9 : Int → List Str → Option ((List Str))) : Nat → Int → List Str → Option ((List Str))
  | 0, _, _ => none
  | m + 1, y5, y6 =>
    bif decide ((y5 : Int) < ((x0.length : Int) : Int)) then
      ((gi x0 y5).bind fun u14 =>
      (gi y6 y5).bind fun u16 =>
      (siM y6 y5 u14).bind fun q19 =>
      laws_toStringS_l1 x0 K9 m (w64 (y5 + 1)) q19)
    else
      (K9 y5 y6)

def laws_toStringS (x0 : List Str) : Option ((List Str)) :=
  (mkM (x0.length : Int) (([] : Str) : Str)).bind fun q1 =>
  jn (fun (y5 : Int) (y6 : List Str) =>
    some y6) fun K9 =>
  laws_toStringS_l1 x0 K9 (((x0.length : Int) - 0).toNat + 1) 0 q1

def laws_toOp (x0 : Vm.Op) : Option (Vm.Op) :=
  (Vm.laws_toStringS x0.Text).bind fun z35 =>
  some (Vm.Op.mk x0.Kind x0.Branch x0.Who x0.Path x0.To x0.At z35)

def spec_l1In (x0 : Int) (x1 : Int) (x2 : Int) : Option (Bool) :=
  jn (fun (y1 : Bool) =>
    some y1) fun K3 =>
  bif decide ((x1 : Int) ≤ (x0 : Int)) then
    (K3 (decide ((x0 : Int) ≤ (x2 : Int))))
  else
    (K3 false)

def spec_l4Name_l1 (x0 : Str) (K4 : Bool → Int → Option (Bool)) : Nat → Bool → Int → Option (Bool)
  | 0, _, _ => none
  | m + 1, y1, y2 =>
    bif decide ((y2 : Int) < ((x0.length : Int) : Int)) then
      (jn (fun (y8 : Bool) =>
        bif y8 then
          (some false)
        else
          (spec_l4Name_l1 x0 K4 m y1 (w64 (y2 + 1)))) fun K10 =>
      (chM x0 y2).bind fun u13 =>
      bif decide (((UInt8.toNat u13 : Int) : Int) < (97 : Int)) then
        ((chM x0 y2).bind fun u16 =>
        bif decide (((UInt8.toNat u16 : Int) : Int) < (48 : Int)) then
          (K10 true)
        else
          ((chM x0 y2).bind fun u19 =>
          K10 (decide ((57 : Int) < ((UInt8.toNat u19 : Int) : Int)))))
      else
        ((chM x0 y2).bind fun u21 =>
        bif decide ((122 : Int) < ((UInt8.toNat u21 : Int) : Int)) then
          ((chM x0 y2).bind fun u24 =>
          bif decide (((UInt8.toNat u24 : Int) : Int) < (48 : Int)) then
            (K10 true)
          else
            ((chM x0 y2).bind fun u27 =>
            K10 (decide ((57 : Int) < ((UInt8.toNat u27 : Int) : Int)))))
        else
          (K10 false)))
    else
      (K4 y1 y2)

def spec_l4Name (x0 : Str) : Option (Bool) :=
  jn (fun (y1 : Bool) (y2 : Int) =>
    (Vm.spec_l1In (x0.length : Int) 1 6).bind fun z29 =>
    some z29) fun K4 =>
  spec_l4Name_l1 x0 K4 (((x0.length : Int) - 0).toNat + 1) false 0

def spec_l19Bare (x0 : Vm.Op) (x1 : Bool) (x2 : Bool) (x3 : Bool) (x4 : Bool) : Option (Bool) :=
  jn (fun (y3 : Bool) =>
    some y3) fun K5 =>
  bif x1 then
    (bif x2 then
      (bif x3 then
        (bif x4 then
          (K5 true)
        else
          (K5 (((x0.Text.length : Int) : Int) == (0 : Int))))
      else
        (bif ((x0.At : Int) == (0 : Int)) then
          (bif x4 then
            (K5 true)
          else
            (K5 (((x0.Text.length : Int) : Int) == (0 : Int))))
        else
          (K5 false)))
    else
      (bif (x0.To == ([] : Str)) then
        (bif x3 then
          (bif x4 then
            (K5 true)
          else
            (K5 (((x0.Text.length : Int) : Int) == (0 : Int))))
        else
          (bif ((x0.At : Int) == (0 : Int)) then
            (bif x4 then
              (K5 true)
            else
              (K5 (((x0.Text.length : Int) : Int) == (0 : Int))))
          else
            (K5 false)))
      else
        (K5 false)))
  else
    (bif (x0.Path == ([] : Str)) then
      (bif x2 then
        (bif x3 then
          (bif x4 then
            (K5 true)
          else
            (K5 (((x0.Text.length : Int) : Int) == (0 : Int))))
        else
          (bif ((x0.At : Int) == (0 : Int)) then
            (bif x4 then
              (K5 true)
            else
              (K5 (((x0.Text.length : Int) : Int) == (0 : Int))))
          else
            (K5 false)))
      else
        (bif (x0.To == ([] : Str)) then
          (bif x3 then
            (bif x4 then
              (K5 true)
            else
              (K5 (((x0.Text.length : Int) : Int) == (0 : Int))))
          else
            (bif ((x0.At : Int) == (0 : Int)) then
              (bif x4 then
                (K5 true)
              else
                (K5 (((x0.Text.length : Int) : Int) == (0 : Int))))
            else
              (K5 false)))
        else
          (K5 false)))
    else
      (K5 false))

def spec_l1Cut_l1 (x0 : Str) (x1 : Byte) (x2 : Int) (K9 : List Str → Int → Int → Option ((List Str))) : Nat → List Str → Int → Int → Option ((List Str))
  | 0, _, _, _ => none
  | m + 1, y3, y6, y7 =>
    jn (fun (y12 : Bool) =>
      bif y12 then
        (jn (fun (y18 : List Str) (y21 : Int) =>
          spec_l1Cut_l1 x0 x1 x2 K9 m y18 y21 (w64 (y7 + 1))) fun K23 =>
        (chM x0 y7).bind fun u25 =>
        bif (((UInt8.toNat u25 : Int) : Int) == ((UInt8.toNat x1 : Int) : Int)) then
          ((slM x0 y6 y7).bind fun q28 =>
          (apM y3 [q28]).bind fun q33 =>
          K23 q33 (w64 (y7 + 1)))
        else
          (K23 y3 y6))
      else
        (K9 y3 y6 y7)) fun K14 =>
    bif decide ((y7 : Int) < ((x0.length : Int) : Int)) then
      (K14 (decide (((y3.length : Int) : Int) < (x2 : Int))))
    else
      (K14 false)

def spec_l1Cut (x0 : Str) (x1 : Byte) (x2 : Int) : Option ((List Str)) :=
  jn (fun (y3 : List Str) (y6 : Int) (y7 : Int) =>
    (slM x0 y6 (x0.length : Int)).bind fun q38 =>
    (apM y3 [q38]).bind fun q43 =>
    some q43) fun K9 =>
  spec_l1Cut_l1 x0 x1 x2 K9 (x0.length + 1) ([] : List Str) 0 0

def spec_l4Path_l1 (z1 : (List Str)) (K8 : Bool → Int → Option (Bool)) : Nat → Bool → Int → Option (Bool)
  | 0, _, _ => none
  | m + 1, y5, y6 =>
    bif decide ((y6 : Int) < ((z1.length : Int) : Int)) then
      ((gi z1 y6).bind fun u13 =>
      (Vm.spec_l4Name u13).bind fun z15 =>
      bif (!z15) then
        (some false)
      else
        (spec_l4Path_l1 z1 K8 m y5 (w64 (y6 + 1))))
    else
      (K8 y5 y6)

def spec_l4Path (x0 : Str) : Option (Bool) :=
  (Vm.spec_l1Cut x0 (UInt8.ofNatLT 47 (by decide) : Byte) 3).bind fun z1 =>
  jn (fun (y5 : Bool) (y6 : Int) =>
    some (decide (((z1.length : Int) : Int) ≤ (3 : Int)))) fun K8 =>
  spec_l4Path_l1 z1 K8 (((z1.length : Int) - 0).toNat + 1) false 0

def spec_l1Line_l1 (x0 : Str) (K4 : Bool → Int → Option (Bool)) : Nat → Bool → Int → Option (Bool)
  | 0, _, _ => none
  | m + 1, y1, y2 =>
    bif decide ((y2 : Int) < ((x0.length : Int) : Int)) then
      (jn (fun (y8 : Bool) =>
        bif y8 then
          (some false)
        else
          (spec_l1Line_l1 x0 K4 m y1 (w64 (y2 + 1)))) fun K10 =>
      (chM x0 y2).bind fun u13 =>
      bif decide (((UInt8.toNat u13 : Int) : Int) < (32 : Int)) then
        (K10 true)
      else
        ((chM x0 y2).bind fun u16 =>
        K10 (decide ((126 : Int) < ((UInt8.toNat u16 : Int) : Int)))))
    else
      (K4 y1 y2)

def spec_l1Line (x0 : Str) : Option (Bool) :=
  jn (fun (y1 : Bool) (y2 : Int) =>
    some (decide (((x0.length : Int) : Int) ≤ (12 : Int)))) fun K4 =>
  spec_l1Line_l1 x0 K4 (((x0.length : Int) - 0).toNat + 1) false 0

def spec_l1Ok_l1 (x0 : List Str) (K4 : Bool → Int → Option (Bool)) : Nat → Bool → Int → Option (Bool)
  | 0, _, _ => none
  | m + 1, y1, y2 =>
    bif decide ((y2 : Int) < ((x0.length : Int) : Int)) then
      ((gi x0 y2).bind fun u9 =>
      (Vm.spec_l1Line u9).bind fun z11 =>
      bif (!z11) then
        (some false)
      else
        (spec_l1Ok_l1 x0 K4 m y1 (w64 (y2 + 1))))
    else
      (K4 y1 y2)

def spec_l1Ok (x0 : List Str) : Option (Bool) :=
  jn (fun (y1 : Bool) (y2 : Int) =>
    some (decide (((x0.length : Int) : Int) ≤ (10 : Int)))) fun K4 =>
  spec_l1Ok_l1 x0 K4 (((x0.length : Int) - 0).toNat + 1) false 0

def spec_l19Lines_l2 (x0 : List Str) (y2 : Int) (K13 : Bool → Int → Option (Bool)) : Nat → Bool → Int → Option (Bool)
  | 0, _, _ => none
  | m + 1, y10, y11 =>
    (gi x0 y2).bind fun u16 =>
    bif decide ((y11 : Int) < ((u16.length : Int) : Int)) then
      ((gi x0 y2).bind fun u20 =>
      (chM u20 y11).bind fun u22 =>
      bif (((UInt8.toNat u22 : Int) : Int) == (124 : Int)) then
        (some false)
      else
        (spec_l19Lines_l2 x0 y2 K13 m y10 (w64 (y11 + 1))))
    else
      (K13 y10 y11)

def spec_l19Lines_l1 (x0 : List Str) (K5 : Bool → Int → Option (Bool)) : Nat → Bool → Int → Option (Bool)
  | 0, _, _ => none
  | m + 1, y1, y2 =>
    bif decide ((y2 : Int) < ((x0.length : Int) : Int)) then
      (jn (fun (y10 : Bool) (y11 : Int) =>
        spec_l19Lines_l1 x0 K5 m y10 (w64 (y2 + 1))) fun K13 =>
      spec_l19Lines_l2 x0 y2 K13 (((gi x0 y2).getD []).length + 1) y1 0)
    else
      (K5 y1 y2)

def spec_l19Lines (x0 : List Str) : Option (Bool) :=
  jn (fun (y1 : Bool) (y2 : Int) =>
    (Vm.spec_l1Ok x0).bind fun z25 =>
    some z25) fun K5 =>
  spec_l19Lines_l1 x0 K5 (((x0.length : Int) - 0).toNat + 1) false 0

def spec_l19Ok (x0 : Vm.Op) : Option (Bool) :=
  jn (fun (y3 : Bool) =>
    bif y3 then
      (some false)
    else
      (bif ((x0.Kind : Int) == (1 : Int)) then
        (jn (fun (y10 : Bool) =>
          some y10) fun K12 =>
        (Vm.spec_l19Bare x0 true false false true).bind fun z16 =>
        bif z16 then
          ((Vm.spec_l4Path x0.Path).bind fun z22 =>
          bif z22 then
            ((Vm.spec_l19Lines x0.Text).bind fun z29 =>
            K12 z29)
          else
            (K12 false))
        else
          (K12 false))
      else
        (bif ((x0.Kind : Int) == (2 : Int)) then
          (jn (fun (y35 : Bool) =>
            some y35) fun K37 =>
          (Vm.spec_l19Bare x0 true false false false).bind fun z41 =>
          bif z41 then
            ((Vm.spec_l4Path x0.Path).bind fun z47 =>
            K37 z47)
          else
            (K37 false))
        else
          (bif ((x0.Kind : Int) == (3 : Int)) then
            (jn (fun (y53 : Bool) =>
              some y53) fun K55 =>
            (Vm.spec_l19Bare x0 true true false false).bind fun z59 =>
            bif z59 then
              ((Vm.spec_l4Path x0.Path).bind fun z65 =>
              bif z65 then
                ((Vm.spec_l4Path x0.To).bind fun z71 =>
                K55 z71)
              else
                (K55 false))
            else
              (K55 false))
          else
            (jn (fun (y76 : Bool) =>
              bif y76 then
                (jn (fun (y82 : Bool) =>
                  some y82) fun K84 =>
                (Vm.spec_l19Bare x0 false true false false).bind fun z88 =>
                bif z88 then
                  ((Vm.spec_l4Name x0.To).bind fun z94 =>
                  K84 z94)
                else
                  (K84 false))
              else
                (jn (fun (y99 : Bool) =>
                  bif y99 then
                    (jn (fun (y105 : Bool) =>
                      some y105) fun K107 =>
                    (Vm.spec_l19Bare x0 false false true false).bind fun z111 =>
                    bif z111 then
                      ((Vm.spec_l1In x0.At 0 15).bind fun z117 =>
                      K107 z117)
                    else
                      (K107 false))
                  else
                    (some false)) fun K101 =>
                bif ((x0.Kind : Int) == (6 : Int)) then
                  (K101 ((x0.Kind : Int) == (6 : Int)))
                else
                  (K101 ((x0.Kind : Int) == (7 : Int))))) fun K78 =>
            bif ((x0.Kind : Int) == (4 : Int)) then
              (K78 ((x0.Kind : Int) == (4 : Int)))
            else
              (K78 ((x0.Kind : Int) == (5 : Int)))))))) fun K5 =>
  (Vm.spec_l4Name x0.Branch).bind fun z124 =>
  bif (!z124) then
    (K5 true)
  else
    ((Vm.spec_l4Name x0.Who).bind fun z130 =>
    K5 (!z130))

def spec_l19Words  : Option ((List Str)) :=
  some ([([] : Str), ([115, 101, 116] : Str), ([100, 114, 111, 112] : Str), ([109, 111, 118, 101] : Str), ([102, 111, 114, 107] : Str), ([117, 110, 105, 116, 101] : Str), ([112, 105, 99, 107] : Str), ([98, 97, 99, 107] : Str)] : List Str)

def spec_l1Dec_r : Nat → Int → Option (Str)
  | 0, _ => none
  | m + 1, x0 =>
    bif decide ((x0 : Int) < ((-9223372036854775807) : Int)) then
      (some ([45, 57, 50, 50, 51, 51, 55, 50, 48, 51, 54, 56, 53, 52, 55, 55, 53, 56, 48, 56] : Str))
    else
      (bif decide ((x0 : Int) < (0 : Int)) then
        ((Vm.spec_l1Dec_r m (w64 (0 - x0))).bind fun z3 =>
        (saM ([45] : Str) z3).bind fun q7 =>
        some q7)
      else
        (bif decide ((x0 : Int) < (10 : Int)) then
          (some (([(by8 (w64 (48 + x0)))] : List Byte) : Str))
        else
          ((Vm.spec_l1Dec_r m (w64 (Int.tdiv x0 10))).bind fun z14 =>
          (saM z14 (([(by8 (w64 (48 + (Int.tmod x0 10))))] : List Byte) : Str)).bind fun q20 =>
          some q20)))

def spec_l1Dec (x0 : Int) : Option (Str) :=
  spec_l1Dec_r (x0.natAbs + 2) x0

def spec_l19Put_l1 (x0 : Vm.Op) (K78 : Str → Option (Str))  : Nat → Str → Int → Option (Str)
  | 0, _, _ => none
  | m + 1, y89, y90 =>
    bif decide ((y90 : Int) < ((x0.Text.length : Int) : Int)) then
      ((saM y89 ([124] : Str)).bind fun q99 =>
      (gi x0.Text y90).bind fun u101 =>
      (saM q99 u101).bind fun q103 =>
      spec_l19Put_l1 x0 K78 m q103 (w64 (y90 + 1)))
    else
      (K78 y89)

def spec_l19Put (x0 : Vm.Op) : Option (Str) :=
  (Vm.spec_l19Words).bind fun z6 =>
  (gi z6 x0.Kind).bind fun u11 =>
  (saM u11 ([32] : Str)).bind fun q13 =>
  (saM q13 x0.Branch).bind fun q15 =>
  (saM q15 ([32] : Str)).bind fun q17 =>
  (saM q17 x0.Who).bind fun q19 =>
  jn (fun (y75 : Str) =>
    some y75) fun K78 =>
  bif ((x0.Kind : Int) == (1 : Int)) then
    ((saM q19 ([32] : Str)).bind fun q83 =>
    (saM q83 x0.Path).bind fun q85 =>
    (saM q85 ([32] : Str)).bind fun q87 =>
    spec_l19Put_l1 x0 K78 (((x0.Text.length : Int) - 0).toNat + 1) q87 0)
  else
    (bif ((x0.Kind : Int) == (2 : Int)) then
      ((saM q19 ([32] : Str)).bind fun q106 =>
      (saM q106 x0.Path).bind fun q108 =>
      K78 q108)
    else
      (bif ((x0.Kind : Int) == (3 : Int)) then
        ((saM q19 ([32] : Str)).bind fun q111 =>
        (saM q111 x0.Path).bind fun q113 =>
        (saM q113 ([32] : Str)).bind fun q115 =>
        (saM q115 x0.To).bind fun q117 =>
        K78 q117)
      else
        (jn (fun (y119 : Bool) =>
          bif y119 then
            ((saM q19 ([32] : Str)).bind fun q126 =>
            (saM q126 x0.To).bind fun q128 =>
            K78 q128)
          else
            ((saM q19 ([32] : Str)).bind fun q130 =>
            (Vm.spec_l1Dec x0.At).bind fun z132 =>
            (saM q130 z132).bind fun q138 =>
            K78 q138)) fun K121 =>
        bif ((x0.Kind : Int) == (4 : Int)) then
          (K121 ((x0.Kind : Int) == (4 : Int)))
        else
          (K121 ((x0.Kind : Int) == (5 : Int))))))

def spec_OpPut (x0 : Vm.Op) : Option (Str) :=
  (Vm.spec_l19Ok x0).bind fun z4 =>
  bif (!z4) then
    (some ([] : Str))
  else
    ((Vm.spec_l19Put x0).bind fun z11 =>
    some z11)

def impl_within (x0 : Int) (x1 : Int) (x2 : Int) : Option (Bool) :=
  jn (fun (y1 : Bool) =>
    some y1) fun K3 =>
  bif decide ((x1 : Int) ≤ (x0 : Int)) then
    (K3 (decide ((x0 : Int) ≤ (x2 : Int))))
  else
    (K3 false)

def impl_wordByte (x0 : Byte) : Option (Bool) :=
  jn (fun (y1 : Bool) =>
    some y1) fun K3 =>
  bif decide ((97 : Int) ≤ ((UInt8.toNat x0 : Int) : Int)) then
    (bif decide (((UInt8.toNat x0 : Int) : Int) ≤ (122 : Int)) then
      (K3 true)
    else
      (bif decide ((48 : Int) ≤ ((UInt8.toNat x0 : Int) : Int)) then
        (K3 (decide (((UInt8.toNat x0 : Int) : Int) ≤ (57 : Int))))
      else
        (K3 false)))
  else
    (bif decide ((48 : Int) ≤ ((UInt8.toNat x0 : Int) : Int)) then
      (K3 (decide (((UInt8.toNat x0 : Int) : Int) ≤ (57 : Int))))
    else
      (K3 false))

def impl_nameOk_l1 (x0 : Str) (K9 : Bool → Int → Option (Bool)) : Nat → Bool → Int → Option (Bool)
  | 0, _, _ => none
  | m + 1, y6, y7 =>
    bif decide ((y7 : Int) < ((x0.length : Int) : Int)) then
      ((chM x0 y7).bind fun u13 =>
      (Vm.impl_wordByte u13).bind fun z15 =>
      bif (!z15) then
        (some false)
      else
        (impl_nameOk_l1 x0 K9 m y6 (w64 (y7 + 1))))
    else
      (K9 y6 y7)

def impl_nameOk (x0 : Str) : Option (Bool) :=
  (Vm.impl_within (x0.length : Int) 1 6).bind fun z1 =>
  bif (!z1) then
    (some false)
  else
    (jn (fun (y6 : Bool) (y7 : Int) =>
      some true) fun K9 =>
    impl_nameOk_l1 x0 K9 (((x0.length : Int) - 0).toNat + 1) false 0)

def strings_Split (x0 : Str) (x1 : Str) : Option ((List Str)) :=
  if x0.length ≤ 4294967000 ∧ 1 ≤ x1.length then some (Go.Lib.split x0 x1) else none

def impl_PathOk_l1 (z1 : (List Str)) (K10 : Bool → Int → Option (Bool)) : Nat → Bool → Int → Option (Bool)
  | 0, _, _ => none
  | m + 1, y6, y8 =>
    bif decide ((y8 : Int) < ((z1.length : Int) : Int)) then
      ((gi z1 y8).bind fun u15 =>
      (Vm.impl_nameOk u15).bind fun z17 =>
      bif (!z17) then
        (some false)
      else
        (impl_PathOk_l1 z1 K10 m y6 (w64 (y8 + 1))))
    else
      (K10 y6 y8)

def impl_PathOk (x0 : Str) : Option (Bool) :=
  (Vm.strings_Split x0 ([47] : Str)).bind fun z1 =>
  bif decide ((3 : Int) < ((z1.length : Int) : Int)) then
    (some false)
  else
    (jn (fun (y6 : Bool) (y8 : Int) =>
      some true) fun K10 =>
    impl_PathOk_l1 z1 K10 (((z1.length : Int) - 0).toNat + 1) false 0)

def impl_lineOk_l1 (x0 : Str) (K5 : Bool → Int → Option (Bool)) : Nat → Bool → Int → Option (Bool)
  | 0, _, _ => none
  | m + 1, y2, y3 =>
    bif decide ((y3 : Int) < ((x0.length : Int) : Int)) then
      (jn (fun (y9 : Bool) =>
        bif y9 then
          (some false)
        else
          (impl_lineOk_l1 x0 K5 m y2 (w64 (y3 + 1)))) fun K11 =>
      (chM x0 y3).bind fun u14 =>
      bif decide (((UInt8.toNat u14 : Int) : Int) < (32 : Int)) then
        (K11 true)
      else
        ((chM x0 y3).bind fun u17 =>
        K11 (decide ((126 : Int) < ((UInt8.toNat u17 : Int) : Int)))))
    else
      (K5 y2 y3)

def impl_lineOk (x0 : Str) : Option (Bool) :=
  bif decide ((12 : Int) < ((x0.length : Int) : Int)) then
    (some false)
  else
    (jn (fun (y2 : Bool) (y3 : Int) =>
      some true) fun K5 =>
    impl_lineOk_l1 x0 K5 (((x0.length : Int) - 0).toNat + 1) false 0)

def impl_TextOk_l1 (x0 : List Str) (K6 : Bool → Int → Option (Bool)) : Nat → Bool → Int → Option (Bool)
  | 0, _, _ => none
  | m + 1, y2, y4 =>
    bif decide ((y4 : Int) < ((x0.length : Int) : Int)) then
      ((gi x0 y4).bind fun u10 =>
      (Vm.impl_lineOk u10).bind fun z13 =>
      bif (!z13) then
        (some false)
      else
        (impl_TextOk_l1 x0 K6 m y2 (w64 (y4 + 1))))
    else
      (K6 y2 y4)

def impl_TextOk (x0 : List Str) : Option (Bool) :=
  bif decide ((10 : Int) < ((x0.length : Int) : Int)) then
    (some false)
  else
    (jn (fun (y2 : Bool) (y4 : Int) =>
      some true) fun K6 =>
    impl_TextOk_l1 x0 K6 (((x0.length : Int) - 0).toNat + 1) false 0)

def strings_Join (x0 : List Str) (x1 : Str) : Option (Str) :=
  if x0.length ≤ 4294967000 ∧ (Go.Lib.join x0 x1).length ≤ 4294967000 then some (Go.Lib.join x0 x1) else none

def strings_Contains (x0 : Str) (x1 : Str) : Option (Bool) :=
  if x0.length ≤ 4294967000 then some (Go.Lib.contains x0 x1) else none

def impl_OpOk (x0 : Vm.Op) : Option (Bool) :=
  jn (fun (y3 : Bool) =>
    bif y3 then
      (some false)
    else
      (bif ((x0.Kind : Int) == (1 : Int)) then
        (jn (fun (y14 : Bool) =>
          some y14) fun K16 =>
        (Vm.impl_PathOk x0.Path).bind fun z20 =>
        bif z20 then
          ((Vm.impl_TextOk x0.Text).bind fun z27 =>
          bif z27 then
            ((Vm.strings_Join x0.Text ([] : Str)).bind fun z34 =>
            (Vm.strings_Contains z34 ([124] : Str)).bind fun z40 =>
            bif (!z40) then
              (bif (x0.To == ([] : Str)) then
                (K16 ((x0.At : Int) == (0 : Int)))
              else
                (K16 false))
            else
              (K16 false))
          else
            (K16 false))
        else
          (K16 false))
      else
        (bif ((x0.Kind : Int) == (2 : Int)) then
          (jn (fun (y48 : Bool) =>
            some y48) fun K50 =>
          (Vm.impl_PathOk x0.Path).bind fun z54 =>
          bif z54 then
            (bif (x0.To == ([] : Str)) then
              (bif ((x0.At : Int) == (0 : Int)) then
                (K50 (((x0.Text.length : Int) : Int) == (0 : Int)))
              else
                (K50 false))
            else
              (K50 false))
          else
            (K50 false))
        else
          (bif ((x0.Kind : Int) == (3 : Int)) then
            (jn (fun (y63 : Bool) =>
              some y63) fun K65 =>
            (Vm.impl_PathOk x0.Path).bind fun z69 =>
            bif z69 then
              ((Vm.impl_PathOk x0.To).bind fun z76 =>
              bif z76 then
                (bif ((x0.At : Int) == (0 : Int)) then
                  (K65 (((x0.Text.length : Int) : Int) == (0 : Int)))
                else
                  (K65 false))
              else
                (K65 false))
            else
              (K65 false))
          else
            (jn (fun (y83 : Bool) =>
              bif y83 then
                (jn (fun (y89 : Bool) =>
                  some y89) fun K91 =>
                (Vm.impl_nameOk x0.To).bind fun z94 =>
                bif z94 then
                  (bif (x0.Path == ([] : Str)) then
                    (bif ((x0.At : Int) == (0 : Int)) then
                      (K91 (((x0.Text.length : Int) : Int) == (0 : Int)))
                    else
                      (K91 false))
                  else
                    (K91 false))
                else
                  (K91 false))
              else
                (jn (fun (y102 : Bool) =>
                  bif y102 then
                    (jn (fun (y108 : Bool) =>
                      some y108) fun K110 =>
                    (Vm.impl_within x0.At 0 15).bind fun z113 =>
                    bif z113 then
                      (bif (x0.Path == ([] : Str)) then
                        (bif (x0.To == ([] : Str)) then
                          (K110 (((x0.Text.length : Int) : Int) == (0 : Int)))
                        else
                          (K110 false))
                      else
                        (K110 false))
                    else
                      (K110 false))
                  else
                    (some false)) fun K104 =>
                bif ((x0.Kind : Int) == (6 : Int)) then
                  (K104 ((x0.Kind : Int) == (6 : Int)))
                else
                  (K104 ((x0.Kind : Int) == (7 : Int))))) fun K85 =>
            bif ((x0.Kind : Int) == (4 : Int)) then
              (K85 ((x0.Kind : Int) == (4 : Int)))
            else
              (K85 ((x0.Kind : Int) == (5 : Int)))))))) fun K5 =>
  (Vm.impl_nameOk x0.Branch).bind fun z123 =>
  bif (!z123) then
    (K5 true)
  else
    ((Vm.impl_nameOk x0.Who).bind fun z129 =>
    K5 (!z129))

def impl_opWords  : Option ((List Str)) :=
  some ([([] : Str), ([115, 101, 116] : Str), ([100, 114, 111, 112] : Str), ([109, 111, 118, 101] : Str), ([102, 111, 114, 107] : Str), ([117, 110, 105, 116, 101] : Str), ([112, 105, 99, 107] : Str), ([98, 97, 99, 107] : Str)] : List Str)

def impl_joinLines_l1 (x0 : List Str) (K5 : Str → Int → Option (Str)) : Nat → Str → Int → Option (Str)
  | 0, _, _ => none
  | m + 1, y1, y3 =>
    bif decide ((y3 : Int) < ((x0.length : Int) : Int)) then
      ((gi x0 y3).bind fun u9 =>
      (saM ([124] : Str) u9).bind fun q12 =>
      (saM y1 q12).bind fun q14 =>
      impl_joinLines_l1 x0 K5 m q14 (w64 (y3 + 1)))
    else
      (K5 y1 y3)

def impl_joinLines (x0 : List Str) : Option (Str) :=
  jn (fun (y1 : Str) (y3 : Int) =>
    some y1) fun K5 =>
  impl_joinLines_l1 x0 K5 (((x0.length : Int) - 0).toNat + 1) ([] : Str) 0

def strconv_Itoa (x0 : Int) : Option (Str) :=
  if 0 ≤ x0 ∧ x0 < 100 then some (Go.Lib.decDigits x0.toNat) else none

def impl_opPut (x0 : Vm.Op) : Option (Str) :=
  (Vm.impl_opWords).bind fun z6 =>
  (gi z6 x0.Kind).bind fun u11 =>
  (saM u11 ([32] : Str)).bind fun q13 =>
  (saM q13 x0.Branch).bind fun q15 =>
  (saM q15 ([32] : Str)).bind fun q17 =>
  (saM q17 x0.Who).bind fun q19 =>
  (saM q19 ([32] : Str)).bind fun q21 =>
  bif ((x0.Kind : Int) == (1 : Int)) then
    ((saM q21 x0.Path).bind fun q85 =>
    (saM q85 ([32] : Str)).bind fun q87 =>
    (Vm.impl_joinLines x0.Text).bind fun z90 =>
    (saM q87 z90).bind fun q96 =>
    some q96)
  else
    (bif ((x0.Kind : Int) == (2 : Int)) then
      ((saM q21 x0.Path).bind fun q99 =>
      some q99)
    else
      (bif ((x0.Kind : Int) == (3 : Int)) then
        ((saM q21 x0.Path).bind fun q102 =>
        (saM q102 ([32] : Str)).bind fun q104 =>
        (saM q104 x0.To).bind fun q106 =>
        some q106)
      else
        (jn (fun (y108 : Bool) =>
          bif y108 then
            ((saM q21 x0.To).bind fun q115 =>
            some q115)
          else
            ((Vm.strconv_Itoa x0.At).bind fun z117 =>
            (saM q21 z117).bind fun q123 =>
            some q123)) fun K110 =>
        bif ((x0.Kind : Int) == (4 : Int)) then
          (K110 ((x0.Kind : Int) == (4 : Int)))
        else
          (K110 ((x0.Kind : Int) == (5 : Int))))))

def impl_OpPut (x0 : Vm.Op) : Option (Str) :=
  (Vm.impl_OpOk x0).bind fun z5 =>
  bif (!z5) then
    (some ([] : Str))
  else
    ((Vm.impl_opPut x0).bind fun z12 =>
    some z12)

def laws_eqStringS_l1 (x0 : List Str) (x1 : List Str) (K5 : Bool → Int → Option (Bool)) : Nat → Bool → Int → Option (Bool)
  | 0, _, _ => none
  | m + 1, y2, y3 =>
    bif decide ((y3 : Int) < ((x0.length : Int) : Int)) then
      ((gi x0 y3).bind fun u12 =>
      (gi x1 y3).bind fun u15 =>
      bif (u12 != u15) then
        (some false)
      else
        (laws_eqStringS_l1 x0 x1 K5 m y2 (w64 (y3 + 1))))
    else
      (K5 y2 y3)

def laws_eqStringS (x0 : List Str) (x1 : List Str) : Option (Bool) :=
  bif (((x0.length : Int) : Int) != ((x1.length : Int) : Int)) then
    (some false)
  else
    (jn (fun (y2 : Bool) (y3 : Int) =>
      some true) fun K5 =>
    laws_eqStringS_l1 x0 x1 K5 (((x0.length : Int) - 0).toNat + 1) false 0)

def laws_eqOp (x0 : Vm.Op) (x1 : Vm.Op) : Option (Bool) :=
  bif ((x0.Kind : Int) != (x1.Kind : Int)) then
    (some false)
  else
    (bif (x0.Branch != x1.Branch) then
      (some false)
    else
      (bif (x0.Who != x1.Who) then
        (some false)
      else
        (bif (x0.Path != x1.Path) then
          (some false)
        else
          (bif (x0.To != x1.To) then
            (some false)
          else
            (bif ((x0.At : Int) != (x1.At : Int)) then
              (some false)
            else
              ((Vm.laws_eqStringS x0.Text x1.Text).bind fun z14 =>
              bif (!z14) then
                (some false)
              else
                (some true)))))))

def laws_FnExactOpPut (x0 : Vm.Op) : Option (Bool) :=
  (Vm.laws_szOp x0 1048576).bind fun z4 =>
  bif decide ((z4 : Int) < (0 : Int)) then
    (some true)
  else
    ((Vm.laws_toOp x0).bind fun z11 =>
    (Vm.spec_OpPut (Vm.Op.mk z11.Kind z11.Branch z11.Who z11.Path z11.To z11.At z11.Text)).bind fun z16 =>
    (Vm.laws_toOp x0).bind fun z23 =>
    (Vm.impl_OpPut (Vm.Op.mk z23.Kind z23.Branch z23.Who z23.Path z23.To z23.At z23.Text)).bind fun z40 =>
    bif (z40 != z16) then
      (some false)
    else
      ((Vm.laws_toOp x0).bind fun z56 =>
      (Vm.laws_eqOp (Vm.Op.mk z23.Kind z23.Branch z23.Who z23.Path z23.To z23.At z23.Text) (Vm.Op.mk z56.Kind z56.Branch z56.Who z56.Path z56.To z56.At z56.Text)).bind fun z64 =>
      bif (!z64) then
        (some false)
      else
        (some true)))

end Go.Vm
