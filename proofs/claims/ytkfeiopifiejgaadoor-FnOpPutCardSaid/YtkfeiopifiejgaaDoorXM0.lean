/- Models of the functions: plain Lean, printed by a program of ours. Conditions: none. -/
import Derived.Test.YtkfeiopifiejgaaDoorXLw
import Derived.Lib.SplitLaws
import Derived.Lib.IndexMore
import Derived.Lib.Join
import Derived.Lib.ItoaNum
import Derived.Test.YtkfeiopifiejgaaDoorXAt
namespace Go.Vm
open Go Go.Sx
set_option linter.unusedVariables false
set_option linter.unusedSimpArgs false

def spec_l30Open (x0 : List Byte) : Option (Vm.l30Rd) :=
  jn (fun (y1 : List Byte) =>
    some (Vm.l30Rd.mk y1 0)) fun K5 =>
  bif decide ((2000 : Int) < ((x0.length : Int) : Int)) then
    ((slM x0 0 2000).bind fun q13 =>
    K5 q13)
  else
    (K5 x0)

def spec_l30Rd_pick (x0 : Vm.l30Rd) (x1 : Int) : Option (Int × Int) :=
  jn (fun (y3 : Bool) =>
    bif y3 then
      (some (0, w64 (x0.p + 1)))
    else
      (bif decide ((w64 ((w64 (x0.p + 1)) - 1) : Int) < ((x0.b.length : Int) : Int)) then
        ((gi x0.b (w64 ((w64 (x0.p + 1)) - 1))).bind fun u11 =>
        (if (x1 : Int) = 0 then none else some ()).bind fun _ =>
        some (Int.tmod (w64 (UInt8.toNat u11 : Int)) x1, w64 (x0.p + 1)))
      else
        ((if ((x0.b.length : Int) : Int) = 0 then none else some ()).bind fun _ =>
        (gi x0.b (Int.tmod (w64 ((w64 (x0.p + 1)) - 1)) (x0.b.length : Int))).bind fun u19 =>
        (if ((x0.b.length : Int) : Int) = 0 then none else some ()).bind fun _ =>
        (gi x0.b (Int.tmod (w64 ((w64 ((w64 ((w64 (x0.p + 1)) - 1)) * 7)) + 3)) (x0.b.length : Int))).bind fun u22 =>
        (if ((x0.b.length : Int) : Int) = 0 then none else some ()).bind fun _ =>
        (if (x1 : Int) = 0 then none else some ()).bind fun _ =>
        some (Int.tmod (xor64 (w64 ((w64 ((w64 ((w64 ((w64 (UInt8.toNat u19 : Int)) * 131)) + (w64 ((w64 (UInt8.toNat u22 : Int)) * 1117)))) + (w64 ((w64 ((w64 (x0.p + 1)) - 1)) * 29)))) + (w64 ((w64 (Int.tdiv (w64 ((w64 (x0.p + 1)) - 1)) (x0.b.length : Int))) * 53)))) (w64 (Int.tdiv (w64 ((w64 ((w64 ((w64 ((w64 (UInt8.toNat u19 : Int)) * 131)) + (w64 ((w64 (UInt8.toNat u22 : Int)) * 1117)))) + (w64 ((w64 ((w64 (x0.p + 1)) - 1)) * 29)))) + (w64 ((w64 (Int.tdiv (w64 ((w64 (x0.p + 1)) - 1)) (x0.b.length : Int))) * 53)))) 64))) x1, w64 (x0.p + 1))))) fun K5 =>
  bif decide ((x1 : Int) < (1 : Int)) then
    (K5 true)
  else
    (K5 (((x0.b.length : Int) : Int) == (0 : Int)))

def spec_l30Rd_of (x0 : Vm.l30Rd) (x1 : List Str) : Option (Str × Int) :=
  (Vm.spec_l30Rd_pick x0 (x1.length : Int)).bind fun z1 =>
  (gi x1 z1.1).bind fun u5 =>
  some (u5, z1.2)

def spec_l30Branch (x0 : Vm.l30Rd) : Option (Str × Int) :=
  (Vm.spec_l30Rd_of x0 ([([109, 97, 105, 110] : Str), ([109, 97, 105, 110] : Str), ([115, 105, 100, 101] : Str), ([100, 101, 118] : Str)] : List Str)).bind fun z5 =>
  some (z5.1, z5.2)

def spec_l30Path (x0 : Vm.l30Rd) : Option (Str × Int) :=
  (Vm.spec_l30Rd_of x0 ([([97] : Str), ([98] : Str), ([100, 47, 101] : Str), ([100, 47, 102] : Str), ([103, 47, 104, 47, 105] : Str), ([103, 47, 107] : Str), ([122] : Str)] : List Str)).bind fun z5 =>
  some (z5.1, z5.2)

def spec_l30Rd_one (x0 : Vm.l30Rd) (x1 : List Int) : Option (Int × Int) :=
  (Vm.spec_l30Rd_pick x0 (x1.length : Int)).bind fun z1 =>
  (gi x1 z1.1).bind fun u5 =>
  some (u5, z1.2)

def spec_l30Line (x0 : Vm.l30Rd) : Option (Str × Int) :=
  (Vm.spec_l30Rd_of x0 ([([97] : Str), ([98] : Str), ([99] : Str), ([100] : Str), ([] : Str), ([120, 32, 121] : Str), ([115, 101, 101, 32, 97] : Str), ([115, 101, 101, 32, 100, 47, 101] : Str), ([101, 110, 100] : Str)] : List Str)).bind fun z5 =>
  some (z5.1, z5.2)

def spec_l30Text_l1 (x0 : Vm.l30Rd) (K22 : List Str → Int → Int → Option ((List Str) × Int)) : Nat → List Str → Int → Int → Option ((List Str) × Int)
  | 0, _, _, _ => none
  | m + 1, y15, y18, y19 =>
    bif decide ((0 : Int) < (y18 : Int)) then
      ((Vm.spec_l30Line (Vm.l30Rd.mk x0.b y19)).bind fun z28 =>
      (apM y15 [z28.1]).bind fun q39 =>
      spec_l30Text_l1 x0 K22 m q39 (w64 (y18 - 1)) z28.2)
    else
      (K22 y15 y18 y19)

def spec_l30Text (x0 : Vm.l30Rd) : Option ((List Str) × Int) :=
  (Vm.spec_l30Rd_one x0 ([0, 1, 3, 5, 8] : List Int)).bind fun z9 =>
  jn (fun (y15 : List Str) (y18 : Int) (y19 : Int) =>
    some (y15, y19)) fun K22 =>
  spec_l30Text_l1 x0 K22 ((z9.1 - 0).toNat + 1) ([] : List Str) z9.1 z9.2

def spec_l30Op (x0 : Vm.l30Rd) : Option (Vm.Op × Int) :=
  (Vm.spec_l30Branch x0).bind fun z5 =>
  (Vm.spec_l30Rd_of (Vm.l30Rd.mk x0.b z5.2) ([([97, 110, 110] : Str), ([98, 111, 98] : Str), ([99, 105, 100] : Str)] : List Str)).bind fun z15 =>
  jn (fun (y31 : Int) (y33 : Int) (y34 : Str) (y35 : Str) (y36 : Str) (y37 : Str) (y38 : Int) (y39 : List Str) =>
    some (Vm.Op.mk y33 y34 y35 y36 y37 y38 y39, y31)) fun K44 =>
  (Vm.spec_l30Rd_pick (Vm.l30Rd.mk x0.b z15.2) 12).bind fun z61 =>
  bif ((z61.1 : Int) == (0 : Int)) then
    ((Vm.spec_l30Path (Vm.l30Rd.mk x0.b z61.2)).bind fun z75 =>
    K44 z75.2 2 z5.1 z15.1 z75.1 ([] : Str) 0 ([] : List Str))
  else
    (bif ((z61.1 : Int) == (1 : Int)) then
      ((Vm.spec_l30Path (Vm.l30Rd.mk x0.b z61.2)).bind fun z94 =>
      (Vm.spec_l30Path (Vm.l30Rd.mk x0.b z94.2)).bind fun z107 =>
      K44 z107.2 3 z5.1 z15.1 z94.1 z107.1 0 ([] : List Str))
    else
      (jn (fun (y119 : Bool) =>
        bif y119 then
          ((Vm.spec_l30Rd_of (Vm.l30Rd.mk x0.b z61.2) ([([115, 105, 100, 101] : Str), ([100, 101, 118] : Str), ([111, 108, 100] : Str)] : List Str)).bind fun z140 =>
          K44 z140.2 4 z5.1 z15.1 ([] : Str) z140.1 0 ([] : List Str))
        else
          (jn (fun (y154 : Bool) =>
            bif y154 then
              ((Vm.spec_l30Branch (Vm.l30Rd.mk x0.b z61.2)).bind fun z169 =>
              K44 z169.2 5 z5.1 z15.1 ([] : Str) z169.1 0 ([] : List Str))
            else
              (bif ((z61.1 : Int) == (7 : Int)) then
                ((Vm.spec_l30Rd_pick (Vm.l30Rd.mk x0.b z61.2) 10).bind fun z188 =>
                K44 z188.2 6 z5.1 z15.1 ([] : Str) ([] : Str) z188.1 ([] : List Str))
              else
                (bif ((z61.1 : Int) == (8 : Int)) then
                  ((Vm.spec_l30Rd_pick (Vm.l30Rd.mk x0.b z61.2) 10).bind fun z207 =>
                  K44 z207.2 7 z5.1 z15.1 ([] : Str) ([] : Str) z207.1 ([] : List Str))
                else
                  ((Vm.spec_l30Path (Vm.l30Rd.mk x0.b z61.2)).bind fun z225 =>
                  (Vm.spec_l30Text (Vm.l30Rd.mk x0.b z225.2)).bind fun z238 =>
                  K44 z238.2 1 z5.1 z15.1 z225.1 ([] : Str) 0 z238.1)))) fun K156 =>
          bif ((z61.1 : Int) == (4 : Int)) then
            (K156 ((z61.1 : Int) == (4 : Int)))
          else
            (bif ((z61.1 : Int) == (5 : Int)) then
              (K156 ((z61.1 : Int) == (5 : Int)))
            else
              (K156 ((z61.1 : Int) == (6 : Int)))))) fun K121 =>
      bif ((z61.1 : Int) == (2 : Int)) then
        (K121 ((z61.1 : Int) == (2 : Int)))
      else
        (K121 ((z61.1 : Int) == (3 : Int)))))

def impl_within (x0 : Int) (x1 : Int) (x2 : Int) : Option (Bool) :=
  jn (fun (y1 : Bool) =>
    some y1) fun K3 =>
  bif decide ((x1 : Int) ≤ (x0 : Int)) then
    (K3 (decide ((x0 : Int) ≤ (x2 : Int))))
  else
    (K3 false)

def impl_wordByte (x0 : Byte) : Option (Bool) :=
  jn (fun (y1 : Bool) =>
    some y1) fun K3 =>
  bif decide ((97 : Int) ≤ ((UInt8.toNat x0 : Int) : Int)) then
    (bif decide (((UInt8.toNat x0 : Int) : Int) ≤ (122 : Int)) then
      (K3 true)
    else
      (bif decide ((48 : Int) ≤ ((UInt8.toNat x0 : Int) : Int)) then
        (K3 (decide (((UInt8.toNat x0 : Int) : Int) ≤ (57 : Int))))
      else
        (K3 false)))
  else
    (bif decide ((48 : Int) ≤ ((UInt8.toNat x0 : Int) : Int)) then
      (K3 (decide (((UInt8.toNat x0 : Int) : Int) ≤ (57 : Int))))
    else
      (K3 false))

def impl_nameOk_l1 (x0 : Str) (K9 : Bool → Int → Option (Bool)) : Nat → Bool → Int → Option (Bool)
  | 0, _, _ => none
  | m + 1, y6, y7 =>
    bif decide ((y7 : Int) < ((x0.length : Int) : Int)) then
      ((chM x0 y7).bind fun u13 =>
      (Vm.impl_wordByte u13).bind fun z15 =>
      bif (!z15) then
        (some false)
      else
        (impl_nameOk_l1 x0 K9 m y6 (w64 (y7 + 1))))
    else
      (K9 y6 y7)

def impl_nameOk (x0 : Str) : Option (Bool) :=
  (Vm.impl_within (x0.length : Int) 1 6).bind fun z1 =>
  bif (!z1) then
    (some false)
  else
    (jn (fun (y6 : Bool) (y7 : Int) =>
      some true) fun K9 =>
    impl_nameOk_l1 x0 K9 (((x0.length : Int) - 0).toNat + 1) false 0)

def strings_Split (x0 : Str) (x1 : Str) : Option ((List Str)) :=
  if x0.length ≤ 4294967000 ∧ 1 ≤ x1.length then some (Go.Lib.split x0 x1) else none

def impl_PathOk_l1 (z1 : (List Str)) (K10 : Bool → Int → Option (Bool)) : Nat → Bool → Int → Option (Bool)
  | 0, _, _ => none
  | m + 1, y6, y8 =>
    bif decide ((y8 : Int) < ((z1.length : Int) : Int)) then
      ((gi z1 y8).bind fun u15 =>
      (Vm.impl_nameOk u15).bind fun z17 =>
      bif (!z17) then
        (some false)
      else
        (impl_PathOk_l1 z1 K10 m y6 (w64 (y8 + 1))))
    else
      (K10 y6 y8)

def impl_PathOk (x0 : Str) : Option (Bool) :=
  (Vm.strings_Split x0 ([47] : Str)).bind fun z1 =>
  bif decide ((3 : Int) < ((z1.length : Int) : Int)) then
    (some false)
  else
    (jn (fun (y6 : Bool) (y8 : Int) =>
      some true) fun K10 =>
    impl_PathOk_l1 z1 K10 (((z1.length : Int) - 0).toNat + 1) false 0)

def impl_lineOk_l1 (x0 : Str) (K5 : Bool → Int → Option (Bool)) : Nat → Bool → Int → Option (Bool)
  | 0, _, _ => none
  | m + 1, y2, y3 =>
    bif decide ((y3 : Int) < ((x0.length : Int) : Int)) then
      (jn (fun (y9 : Bool) =>
        bif y9 then
          (some false)
        else
          (impl_lineOk_l1 x0 K5 m y2 (w64 (y3 + 1)))) fun K11 =>
      (chM x0 y3).bind fun u14 =>
      bif decide (((UInt8.toNat u14 : Int) : Int) < (32 : Int)) then
        (K11 true)
      else
        ((chM x0 y3).bind fun u17 =>
        K11 (decide ((126 : Int) < ((UInt8.toNat u17 : Int) : Int)))))
    else
      (K5 y2 y3)

def impl_lineOk (x0 : Str) : Option (Bool) :=
  bif decide ((12 : Int) < ((x0.length : Int) : Int)) then
    (some false)
  else
    (jn (fun (y2 : Bool) (y3 : Int) =>
      some true) fun K5 =>
    impl_lineOk_l1 x0 K5 (((x0.length : Int) - 0).toNat + 1) false 0)

def impl_TextOk_l1 (x0 : List Str) (K6 : Bool → Int → Option (Bool)) : Nat → Bool → Int → Option (Bool)
  | 0, _, _ => none
  | m + 1, y2, y4 =>
    bif decide ((y4 : Int) < ((x0.length : Int) : Int)) then
      ((gi x0 y4).bind fun u10 =>
      (Vm.impl_lineOk u10).bind fun z13 =>
      bif (!z13) then
        (some false)
      else
        (impl_TextOk_l1 x0 K6 m y2 (w64 (y4 + 1))))
    else
      (K6 y2 y4)

def impl_TextOk (x0 : List Str) : Option (Bool) :=
  bif decide ((10 : Int) < ((x0.length : Int) : Int)) then
    (some false)
  else
    (jn (fun (y2 : Bool) (y4 : Int) =>
      some true) fun K6 =>
    impl_TextOk_l1 x0 K6 (((x0.length : Int) - 0).toNat + 1) false 0)

def strings_Join (x0 : List Str) (x1 : Str) : Option (Str) :=
  if x0.length ≤ 4294967000 ∧ (Go.Lib.join x0 x1).length ≤ 4294967000 then some (Go.Lib.join x0 x1) else none

def strings_Contains (x0 : Str) (x1 : Str) : Option (Bool) :=
  if x0.length ≤ 4294967000 then some (Go.Lib.contains x0 x1) else none

def impl_OpOk (x0 : Vm.Op) : Option (Bool) :=
  jn (fun (y3 : Bool) =>
    bif y3 then
      (some false)
    else
      (bif ((x0.Kind : Int) == (1 : Int)) then
        (jn (fun (y14 : Bool) =>
          some y14) fun K16 =>
        (Vm.impl_PathOk x0.Path).bind fun z20 =>
        bif z20 then
          ((Vm.impl_TextOk x0.Text).bind fun z27 =>
          bif z27 then
            ((Vm.strings_Join x0.Text ([] : Str)).bind fun z34 =>
            (Vm.strings_Contains z34 ([124] : Str)).bind fun z40 =>
            bif (!z40) then
              (bif (x0.To == ([] : Str)) then
                (K16 ((x0.At : Int) == (0 : Int)))
              else
                (K16 false))
            else
              (K16 false))
          else
            (K16 false))
        else
          (K16 false))
      else
        (bif ((x0.Kind : Int) == (2 : Int)) then
          (jn (fun (y48 : Bool) =>
            some y48) fun K50 =>
          (Vm.impl_PathOk x0.Path).bind fun z54 =>
          bif z54 then
            (bif (x0.To == ([] : Str)) then
              (bif ((x0.At : Int) == (0 : Int)) then
                (K50 (((x0.Text.length : Int) : Int) == (0 : Int)))
              else
                (K50 false))
            else
              (K50 false))
          else
            (K50 false))
        else
          (bif ((x0.Kind : Int) == (3 : Int)) then
            (jn (fun (y63 : Bool) =>
              some y63) fun K65 =>
            (Vm.impl_PathOk x0.Path).bind fun z69 =>
            bif z69 then
              ((Vm.impl_PathOk x0.To).bind fun z76 =>
              bif z76 then
                (bif ((x0.At : Int) == (0 : Int)) then
                  (K65 (((x0.Text.length : Int) : Int) == (0 : Int)))
                else
                  (K65 false))
              else
                (K65 false))
            else
              (K65 false))
          else
            (jn (fun (y83 : Bool) =>
              bif y83 then
                (jn (fun (y89 : Bool) =>
                  some y89) fun K91 =>
                (Vm.impl_nameOk x0.To).bind fun z94 =>
                bif z94 then
                  (bif (x0.Path == ([] : Str)) then
                    (bif ((x0.At : Int) == (0 : Int)) then
                      (K91 (((x0.Text.length : Int) : Int) == (0 : Int)))
                    else
                      (K91 false))
                  else
                    (K91 false))
                else
                  (K91 false))
              else
                (jn (fun (y102 : Bool) =>
                  bif y102 then
                    (jn (fun (y108 : Bool) =>
                      some y108) fun K110 =>
                    (Vm.impl_within x0.At 0 15).bind fun z113 =>
                    bif z113 then
                      (bif (x0.Path == ([] : Str)) then
                        (bif (x0.To == ([] : Str)) then
                          (K110 (((x0.Text.length : Int) : Int) == (0 : Int)))
                        else
                          (K110 false))
                      else
                        (K110 false))
                    else
                      (K110 false))
                  else
                    (some false)) fun K104 =>
                bif ((x0.Kind : Int) == (6 : Int)) then
                  (K104 ((x0.Kind : Int) == (6 : Int)))
                else
                  (K104 ((x0.Kind : Int) == (7 : Int))))) fun K85 =>
            bif ((x0.Kind : Int) == (4 : Int)) then
              (K85 ((x0.Kind : Int) == (4 : Int)))
            else
              (K85 ((x0.Kind : Int) == (5 : Int)))))))) fun K5 =>
  (Vm.impl_nameOk x0.Branch).bind fun z123 =>
  bif (!z123) then
    (K5 true)
  else
    ((Vm.impl_nameOk x0.Who).bind fun z129 =>
    K5 (!z129))

def impl_opWords  : Option ((List Str)) :=
  some ([([] : Str), ([115, 101, 116] : Str), ([100, 114, 111, 112] : Str), ([109, 111, 118, 101] : Str), ([102, 111, 114, 107] : Str), ([117, 110, 105, 116, 101] : Str), ([112, 105, 99, 107] : Str), ([98, 97, 99, 107] : Str)] : List Str)

def impl_joinLines_l1 (x0 : List Str) (K5 : Str → Int → Option (Str)) : Nat → Str → Int → Option (Str)
  | 0, _, _ => none
  | m + 1, y1, y3 =>
    bif decide ((y3 : Int) < ((x0.length : Int) : Int)) then
      ((gi x0 y3).bind fun u9 =>
      (saM ([124] : Str) u9).bind fun q12 =>
      (saM y1 q12).bind fun q14 =>
      impl_joinLines_l1 x0 K5 m q14 (w64 (y3 + 1)))
    else
      (K5 y1 y3)

def impl_joinLines (x0 : List Str) : Option (Str) :=
  jn (fun (y1 : Str) (y3 : Int) =>
    some y1) fun K5 =>
  impl_joinLines_l1 x0 K5 (((x0.length : Int) - 0).toNat + 1) ([] : Str) 0

def strconv_Itoa (x0 : Int) : Option (Str) :=
  if 0 ≤ x0 ∧ x0 < 100 then some (Go.Lib.decDigits x0.toNat) else none

def impl_opPut (x0 : Vm.Op) : Option (Str) :=
  (Vm.impl_opWords).bind fun z6 =>
  (gi z6 x0.Kind).bind fun u11 =>
  (saM u11 ([32] : Str)).bind fun q13 =>
  (saM q13 x0.Branch).bind fun q15 =>
  (saM q15 ([32] : Str)).bind fun q17 =>
  (saM q17 x0.Who).bind fun q19 =>
  (saM q19 ([32] : Str)).bind fun q21 =>
  bif ((x0.Kind : Int) == (1 : Int)) then
    ((saM q21 x0.Path).bind fun q85 =>
    (saM q85 ([32] : Str)).bind fun q87 =>
    (Vm.impl_joinLines x0.Text).bind fun z90 =>
    (saM q87 z90).bind fun q96 =>
    some q96)
  else
    (bif ((x0.Kind : Int) == (2 : Int)) then
      ((saM q21 x0.Path).bind fun q99 =>
      some q99)
    else
      (bif ((x0.Kind : Int) == (3 : Int)) then
        ((saM q21 x0.Path).bind fun q102 =>
        (saM q102 ([32] : Str)).bind fun q104 =>
        (saM q104 x0.To).bind fun q106 =>
        some q106)
      else
        (jn (fun (y108 : Bool) =>
          bif y108 then
            ((saM q21 x0.To).bind fun q115 =>
            some q115)
          else
            ((Vm.strconv_Itoa x0.At).bind fun z117 =>
            (saM q21 z117).bind fun q123 =>
            some q123)) fun K110 =>
        bif ((x0.Kind : Int) == (4 : Int)) then
          (K110 ((x0.Kind : Int) == (4 : Int)))
        else
          (K110 ((x0.Kind : Int) == (5 : Int))))))

def impl_OpPut (x0 : Vm.Op) : Option (Str) :=
  (Vm.impl_OpOk x0).bind fun z5 =>
  bif (!z5) then
    (some ([] : Str))
  else
    ((Vm.impl_opPut x0).bind fun z12 =>
    some z12)

def spec_l1In (x0 : Int) (x1 : Int) (x2 : Int) : Option (Bool) :=
  jn (fun (y1 : Bool) =>
    some y1) fun K3 =>
  bif decide ((x1 : Int) ≤ (x0 : Int)) then
    (K3 (decide ((x0 : Int) ≤ (x2 : Int))))
  else
    (K3 false)

def spec_l4Name_l1 (x0 : Str) (K4 : Bool → Int → Option (Bool)) : Nat → Bool → Int → Option (Bool)
  | 0, _, _ => none
  | m + 1, y1, y2 =>
    bif decide ((y2 : Int) < ((x0.length : Int) : Int)) then
      (jn (fun (y8 : Bool) =>
        bif y8 then
          (some false)
        else
          (spec_l4Name_l1 x0 K4 m y1 (w64 (y2 + 1)))) fun K10 =>
      (chM x0 y2).bind fun u13 =>
      bif decide (((UInt8.toNat u13 : Int) : Int) < (97 : Int)) then
        ((chM x0 y2).bind fun u16 =>
        bif decide (((UInt8.toNat u16 : Int) : Int) < (48 : Int)) then
          (K10 true)
        else
          ((chM x0 y2).bind fun u19 =>
          K10 (decide ((57 : Int) < ((UInt8.toNat u19 : Int) : Int)))))
      else
        ((chM x0 y2).bind fun u21 =>
        bif decide ((122 : Int) < ((UInt8.toNat u21 : Int) : Int)) then
          ((chM x0 y2).bind fun u24 =>
          bif decide (((UInt8.toNat u24 : Int) : Int) < (48 : Int)) then
            (K10 true)
          else
            ((chM x0 y2).bind fun u27 =>
            K10 (decide ((57 : Int) < ((UInt8.toNat u27 : Int) : Int)))))
        else
          (K10 false)))
    else
      (K4 y1 y2)

def spec_l4Name (x0 : Str) : Option (Bool) :=
  jn (fun (y1 : Bool) (y2 : Int) =>
    (Vm.spec_l1In (x0.length : Int) 1 6).bind fun z29 =>
    some z29) fun K4 =>
  spec_l4Name_l1 x0 K4 (((x0.length : Int) - 0).toNat + 1) false 0

def spec_l19Bare (x0 : Vm.Op) (x1 : Bool) (x2 : Bool) (x3 : Bool) (x4 : Bool) : Option (Bool) :=
  jn (fun (y3 : Bool) =>
    some y3) fun K5 =>
  bif x1 then
    (bif x2 then
      (bif x3 then
        (bif x4 then
          (K5 true)
        else
          (K5 (((x0.Text.length : Int) : Int) == (0 : Int))))
      else
        (bif ((x0.At : Int) == (0 : Int)) then
          (bif x4 then
            (K5 true)
          else
            (K5 (((x0.Text.length : Int) : Int) == (0 : Int))))
        else
          (K5 false)))
    else
      (bif (x0.To == ([] : Str)) then
        (bif x3 then
          (bif x4 then
            (K5 true)
          else
            (K5 (((x0.Text.length : Int) : Int) == (0 : Int))))
        else
          (bif ((x0.At : Int) == (0 : Int)) then
            (bif x4 then
              (K5 true)
            else
              (K5 (((x0.Text.length : Int) : Int) == (0 : Int))))
          else
            (K5 false)))
      else
        (K5 false)))
  else
    (bif (x0.Path == ([] : Str)) then
      (bif x2 then
        (bif x3 then
          (bif x4 then
            (K5 true)
          else
            (K5 (((x0.Text.length : Int) : Int) == (0 : Int))))
        else
          (bif ((x0.At : Int) == (0 : Int)) then
            (bif x4 then
              (K5 true)
            else
              (K5 (((x0.Text.length : Int) : Int) == (0 : Int))))
          else
            (K5 false)))
      else
        (bif (x0.To == ([] : Str)) then
          (bif x3 then
            (bif x4 then
              (K5 true)
            else
              (K5 (((x0.Text.length : Int) : Int) == (0 : Int))))
          else
            (bif ((x0.At : Int) == (0 : Int)) then
              (bif x4 then
                (K5 true)
              else
                (K5 (((x0.Text.length : Int) : Int) == (0 : Int))))
            else
              (K5 false)))
        else
          (K5 false)))
    else
      (K5 false))

def spec_l1Cut_l1 (x0 : Str) (x1 : Byte) (x2 : Int) (K9 : List Str → Int → Int → Option ((List Str))) : Nat → List Str → Int → Int → Option ((List Str))
  | 0, _, _, _ => none
  | m + 1, y3, y6, y7 =>
    jn (fun (y12 : Bool) =>
      bif y12 then
        (jn (fun (y18 : List Str) (y21 : Int) =>
          spec_l1Cut_l1 x0 x1 x2 K9 m y18 y21 (w64 (y7 + 1))) fun K23 =>
        (chM x0 y7).bind fun u25 =>
        bif (((UInt8.toNat u25 : Int) : Int) == ((UInt8.toNat x1 : Int) : Int)) then
          ((slM x0 y6 y7).bind fun q28 =>
          (apM y3 [q28]).bind fun q33 =>
          K23 q33 (w64 (y7 + 1)))
        else
          (K23 y3 y6))
      else
        (K9 y3 y6 y7)) fun K14 =>
    bif decide ((y7 : Int) < ((x0.length : Int) : Int)) then
      (K14 (decide (((y3.length : Int) : Int) < (x2 : Int))))
    else
      (K14 false)

def spec_l1Cut (x0 : Str) (x1 : Byte) (x2 : Int) : Option ((List Str)) :=
  jn (fun (y3 : List Str) (y6 : Int) (y7 : Int) =>
    (slM x0 y6 (x0.length : Int)).bind fun q38 =>
    (apM y3 [q38]).bind fun q43 =>
    some q43) fun K9 =>
  spec_l1Cut_l1 x0 x1 x2 K9 (x0.length + 1) ([] : List Str) 0 0

def spec_l4Path_l1 (z1 : (List Str)) (K8 : Bool → Int → Option (Bool)) : Nat → Bool → Int → Option (Bool)
  | 0, _, _ => none
  | m + 1, y5, y6 =>
    bif decide ((y6 : Int) < ((z1.length : Int) : Int)) then
      ((gi z1 y6).bind fun u13 =>
      (Vm.spec_l4Name u13).bind fun z15 =>
      bif (!z15) then
        (some false)
      else
        (spec_l4Path_l1 z1 K8 m y5 (w64 (y6 + 1))))
    else
      (K8 y5 y6)

def spec_l4Path (x0 : Str) : Option (Bool) :=
  (Vm.spec_l1Cut x0 (UInt8.ofNatLT 47 (by decide) : Byte) 3).bind fun z1 =>
  jn (fun (y5 : Bool) (y6 : Int) =>
    some (decide (((z1.length : Int) : Int) ≤ (3 : Int)))) fun K8 =>
  spec_l4Path_l1 z1 K8 (((z1.length : Int) - 0).toNat + 1) false 0

def spec_l1Line_l1 (x0 : Str) (K4 : Bool → Int → Option (Bool)) : Nat → Bool → Int → Option (Bool)
  | 0, _, _ => none
  | m + 1, y1, y2 =>
    bif decide ((y2 : Int) < ((x0.length : Int) : Int)) then
      (jn (fun (y8 : Bool) =>
        bif y8 then
          (some false)
        else
          (spec_l1Line_l1 x0 K4 m y1 (w64 (y2 + 1)))) fun K10 =>
      (chM x0 y2).bind fun u13 =>
      bif decide (((UInt8.toNat u13 : Int) : Int) < (32 : Int)) then
        (K10 true)
      else
        ((chM x0 y2).bind fun u16 =>
        K10 (decide ((126 : Int) < ((UInt8.toNat u16 : Int) : Int)))))
    else
      (K4 y1 y2)

def spec_l1Line (x0 : Str) : Option (Bool) :=
  jn (fun (y1 : Bool) (y2 : Int) =>
    some (decide (((x0.length : Int) : Int) ≤ (12 : Int)))) fun K4 =>
  spec_l1Line_l1 x0 K4 (((x0.length : Int) - 0).toNat + 1) false 0

def spec_l1Ok_l1 (x0 : List Str) (K4 : Bool → Int → Option (Bool)) : Nat → Bool → Int → Option (Bool)
  | 0, _, _ => none
  | m + 1, y1, y2 =>
    bif decide ((y2 : Int) < ((x0.length : Int) : Int)) then
      ((gi x0 y2).bind fun u9 =>
      (Vm.spec_l1Line u9).bind fun z11 =>
      bif (!z11) then
        (some false)
      else
        (spec_l1Ok_l1 x0 K4 m y1 (w64 (y2 + 1))))
    else
      (K4 y1 y2)

def spec_l1Ok (x0 : List Str) : Option (Bool) :=
  jn (fun (y1 : Bool) (y2 : Int) =>
    some (decide (((x0.length : Int) : Int) ≤ (10 : Int)))) fun K4 =>
  spec_l1Ok_l1 x0 K4 (((x0.length : Int) - 0).toNat + 1) false 0

def spec_l19Lines_l2 (x0 : List Str) (y2 : Int) (K13 : Bool → Int → Option (Bool)) : Nat → Bool → Int → Option (Bool)
  | 0, _, _ => none
  | m + 1, y10, y11 =>
    (gi x0 y2).bind fun u16 =>
    bif decide ((y11 : Int) < ((u16.length : Int) : Int)) then
      ((gi x0 y2).bind fun u20 =>
      (chM u20 y11).bind fun u22 =>
      bif (((UInt8.toNat u22 : Int) : Int) == (124 : Int)) then
        (some false)
      else
        (spec_l19Lines_l2 x0 y2 K13 m y10 (w64 (y11 + 1))))
    else
      (K13 y10 y11)

def spec_l19Lines_l1 (x0 : List Str) (K5 : Bool → Int → Option (Bool)) : Nat → Bool → Int → Option (Bool)
  | 0, _, _ => none
  | m + 1, y1, y2 =>
    bif decide ((y2 : Int) < ((x0.length : Int) : Int)) then
      (jn (fun (y10 : Bool) (y11 : Int) =>
        spec_l19Lines_l1 x0 K5 m y10 (w64 (y2 + 1))) fun K13 =>
      spec_l19Lines_l2 x0 y2 K13 (((gi x0 y2).getD []).length + 1) y1 0)
    else
      (K5 y1 y2)

def spec_l19Lines (x0 : List Str) : Option (Bool) :=
  jn (fun (y1 : Bool) (y2 : Int) =>
    (Vm.spec_l1Ok x0).bind fun z25 =>
    some z25) fun K5 =>
  spec_l19Lines_l1 x0 K5 (((x0.length : Int) - 0).toNat + 1) false 0

def spec_l19Ok (x0 : Vm.Op) : Option (Bool) :=
  jn (fun (y3 : Bool) =>
    bif y3 then
      (some false)
    else
      (bif ((x0.Kind : Int) == (1 : Int)) then
        (jn (fun (y10 : Bool) =>
          some y10) fun K12 =>
        (Vm.spec_l19Bare x0 true false false true).bind fun z16 =>
        bif z16 then
          ((Vm.spec_l4Path x0.Path).bind fun z22 =>
          bif z22 then
            ((Vm.spec_l19Lines x0.Text).bind fun z29 =>
            K12 z29)
          else
            (K12 false))
        else
          (K12 false))
      else
        (bif ((x0.Kind : Int) == (2 : Int)) then
          (jn (fun (y35 : Bool) =>
            some y35) fun K37 =>
          (Vm.spec_l19Bare x0 true false false false).bind fun z41 =>
          bif z41 then
            ((Vm.spec_l4Path x0.Path).bind fun z47 =>
            K37 z47)
          else
            (K37 false))
        else
          (bif ((x0.Kind : Int) == (3 : Int)) then
            (jn (fun (y53 : Bool) =>
              some y53) fun K55 =>
            (Vm.spec_l19Bare x0 true true false false).bind fun z59 =>
            bif z59 then
              ((Vm.spec_l4Path x0.Path).bind fun z65 =>
              bif z65 then
                ((Vm.spec_l4Path x0.To).bind fun z71 =>
                K55 z71)
              else
                (K55 false))
            else
              (K55 false))
          else
            (jn (fun (y76 : Bool) =>
              bif y76 then
                (jn (fun (y82 : Bool) =>
                  some y82) fun K84 =>
                (Vm.spec_l19Bare x0 false true false false).bind fun z88 =>
                bif z88 then
                  ((Vm.spec_l4Name x0.To).bind fun z94 =>
                  K84 z94)
                else
                  (K84 false))
              else
                (jn (fun (y99 : Bool) =>
                  bif y99 then
                    (jn (fun (y105 : Bool) =>
                      some y105) fun K107 =>
                    (Vm.spec_l19Bare x0 false false true false).bind fun z111 =>
                    bif z111 then
                      ((Vm.spec_l1In x0.At 0 15).bind fun z117 =>
                      K107 z117)
                    else
                      (K107 false))
                  else
                    (some false)) fun K101 =>
                bif ((x0.Kind : Int) == (6 : Int)) then
                  (K101 ((x0.Kind : Int) == (6 : Int)))
                else
                  (K101 ((x0.Kind : Int) == (7 : Int))))) fun K78 =>
            bif ((x0.Kind : Int) == (4 : Int)) then
              (K78 ((x0.Kind : Int) == (4 : Int)))
            else
              (K78 ((x0.Kind : Int) == (5 : Int)))))))) fun K5 =>
  (Vm.spec_l4Name x0.Branch).bind fun z124 =>
  bif (!z124) then
    (K5 true)
  else
    ((Vm.spec_l4Name x0.Who).bind fun z130 =>
    K5 (!z130))

def spec_l19Words  : Option ((List Str)) :=
  some ([([] : Str), ([115, 101, 116] : Str), ([100, 114, 111, 112] : Str), ([109, 111, 118, 101] : Str), ([102, 111, 114, 107] : Str), ([117, 110, 105, 116, 101] : Str), ([112, 105, 99, 107] : Str), ([98, 97, 99, 107] : Str)] : List Str)

def spec_l1Dec_r : Nat → Int → Option (Str)
  | 0, _ => none
  | m + 1, x0 =>
    bif decide ((x0 : Int) < ((-9223372036854775807) : Int)) then
      (some ([45, 57, 50, 50, 51, 51, 55, 50, 48, 51, 54, 56, 53, 52, 55, 55, 53, 56, 48, 56] : Str))
    else
      (bif decide ((x0 : Int) < (0 : Int)) then
        ((Vm.spec_l1Dec_r m (w64 (0 - x0))).bind fun z3 =>
        (saM ([45] : Str) z3).bind fun q7 =>
        some q7)
      else
        (bif decide ((x0 : Int) < (10 : Int)) then
          (some (([(by8 (w64 (48 + x0)))] : List Byte) : Str))
        else
          ((Vm.spec_l1Dec_r m (w64 (Int.tdiv x0 10))).bind fun z14 =>
          (saM z14 (([(by8 (w64 (48 + (Int.tmod x0 10))))] : List Byte) : Str)).bind fun q20 =>
          some q20)))

def spec_l1Dec (x0 : Int) : Option (Str) :=
  spec_l1Dec_r (x0.natAbs + 2) x0

def spec_l19Put_l1 (x0 : Vm.Op) (K78 : Str → Option (Str))  : Nat → Str → Int → Option (Str)
  | 0, _, _ => none
  | m + 1, y89, y90 =>
    bif decide ((y90 : Int) < ((x0.Text.length : Int) : Int)) then
      ((saM y89 ([124] : Str)).bind fun q99 =>
      (gi x0.Text y90).bind fun u101 =>
      (saM q99 u101).bind fun q103 =>
      spec_l19Put_l1 x0 K78 m q103 (w64 (y90 + 1)))
    else
      (K78 y89)

def spec_l19Put (x0 : Vm.Op) : Option (Str) :=
  (Vm.spec_l19Words).bind fun z6 =>
  (gi z6 x0.Kind).bind fun u11 =>
  (saM u11 ([32] : Str)).bind fun q13 =>
  (saM q13 x0.Branch).bind fun q15 =>
  (saM q15 ([32] : Str)).bind fun q17 =>
  (saM q17 x0.Who).bind fun q19 =>
  jn (fun (y75 : Str) =>
    some y75) fun K78 =>
  bif ((x0.Kind : Int) == (1 : Int)) then
    ((saM q19 ([32] : Str)).bind fun q83 =>
    (saM q83 x0.Path).bind fun q85 =>
    (saM q85 ([32] : Str)).bind fun q87 =>
    spec_l19Put_l1 x0 K78 (((x0.Text.length : Int) - 0).toNat + 1) q87 0)
  else
    (bif ((x0.Kind : Int) == (2 : Int)) then
      ((saM q19 ([32] : Str)).bind fun q106 =>
      (saM q106 x0.Path).bind fun q108 =>
      K78 q108)
    else
      (bif ((x0.Kind : Int) == (3 : Int)) then
        ((saM q19 ([32] : Str)).bind fun q111 =>
        (saM q111 x0.Path).bind fun q113 =>
        (saM q113 ([32] : Str)).bind fun q115 =>
        (saM q115 x0.To).bind fun q117 =>
        K78 q117)
      else
        (jn (fun (y119 : Bool) =>
          bif y119 then
            ((saM q19 ([32] : Str)).bind fun q126 =>
            (saM q126 x0.To).bind fun q128 =>
            K78 q128)
          else
            ((saM q19 ([32] : Str)).bind fun q130 =>
            (Vm.spec_l1Dec x0.At).bind fun z132 =>
            (saM q130 z132).bind fun q138 =>
            K78 q138)) fun K121 =>
        bif ((x0.Kind : Int) == (4 : Int)) then
          (K121 ((x0.Kind : Int) == (4 : Int)))
        else
          (K121 ((x0.Kind : Int) == (5 : Int))))))

def spec_OpPut (x0 : Vm.Op) : Option (Str) :=
  (Vm.spec_l19Ok x0).bind fun z4 =>
  bif (!z4) then
    (some ([] : Str))
  else
    ((Vm.spec_l19Put x0).bind fun z11 =>
    some z11)

def strings_SplitN (x0 : Str) (x1 : Str) (x2 : Int) : Option ((List Str)) :=
  if x0.length ≤ 4294967000 ∧ 1 ≤ x1.length ∧ 1 ≤ x2 ∧ x2 ≤ 1000 then some (Go.Lib.splitK x1 0 (min x2.toNat (x0.length + 1) - 1) x0) else none

def slices_Index_string_string_l1 (x0 : List Str) (x1 : Str) (K5 : Int → Int → Option (Int)) : Nat → Int → Int → Option (Int)
  | 0, _, _ => none
  | m + 1, y1, y3 =>
    bif decide ((y3 : Int) < ((x0.length : Int) : Int)) then
      ((gi x0 y3).bind fun u9 =>
      bif (x1 == u9) then
        (some y3)
      else
        (slices_Index_string_string_l1 x0 x1 K5 m y1 (w64 (y3 + 1))))
    else
      (K5 y1 y3)

def slices_Index_string_string (x0 : List Str) (x1 : Str) : Option (Int) :=
  jn (fun (y1 : Int) (y3 : Int) =>
    some (-1)) fun K5 =>
  slices_Index_string_string_l1 x0 x1 K5 (((x0.length : Int) - 0).toNat + 1) 0 0

def strconv_Atoi (x0 : Str) : Option (Int × Unit) :=
  if x0.length ≤ 4294967000 then some (atoiI x0, ()) else none

def impl_OpGet (x0 : Str) : Option (Vm.Op × Bool) :=
  (Vm.strings_SplitN x0 ([32] : Str) 5).bind fun z4 =>
  bif decide (((z4.length : Int) : Int) < (4 : Int)) then
    (some (Vm.Op.mk 0 ([] : Str) ([] : Str) ([] : Str) ([] : Str) 0 ([] : List Str), false))
  else
    ((Vm.impl_opWords).bind fun z17 =>
    (gi z4 0).bind fun u23 =>
    (Vm.slices_Index_string_string z17 u23).bind fun z25 =>
    (gi z4 1).bind fun u32 =>
    (gi z4 2).bind fun u34 =>
    jn (fun (y131 : Int) (y132 : Str) (y133 : Str) (y134 : Str) (y135 : Str) (y136 : Int) (y137 : List Str) =>
      jn (fun (y147 : Bool) =>
        bif y147 then
          (some (Vm.Op.mk 0 ([] : Str) ([] : Str) ([] : Str) ([] : Str) 0 ([] : List Str), false))
        else
          (some (Vm.Op.mk y131 y132 y133 y134 y135 y136 y137, true))) fun K149 =>
      (Vm.impl_OpOk (Vm.Op.mk y131 y132 y133 y134 y135 y136 y137)).bind fun z168 =>
      bif (!z168) then
        (K149 true)
      else
        ((Vm.impl_opPut (Vm.Op.mk y131 y132 y133 y134 y135 y136 y137)).bind fun z178 =>
        K149 (z178 != x0))) fun K142 =>
    bif ((z25 : Int) == (1 : Int)) then
      ((gi z4 3).bind fun u187 =>
      jn (fun (y194 : Bool) =>
        bif y194 then
          ((gi z4 4).bind fun u203 =>
          (Vm.strings_Split u203 ([124] : Str)).bind fun z206 =>
          (slM z206 1 (z206.length : Int)).bind fun q214 =>
          K142 z25 u32 u34 u187 ([] : Str) 0 q214)
        else
          (K142 z25 u32 u34 u187 ([] : Str) 0 ([] : List Str))) fun K196 =>
      bif (((z4.length : Int) : Int) == (5 : Int)) then
        ((gi z4 4).bind fun u234 =>
        K196 (u234 != ([] : Str)))
      else
        (K196 false))
    else
      (bif ((z25 : Int) == (2 : Int)) then
        ((gi z4 3).bind fun u237 =>
        K142 z25 u32 u34 u237 ([] : Str) 0 ([] : List Str))
      else
        (bif ((z25 : Int) == (3 : Int)) then
          ((gi z4 3).bind fun u245 =>
          bif (((z4.length : Int) : Int) == (5 : Int)) then
            ((gi z4 4).bind fun u253 =>
            K142 z25 u32 u34 u245 u253 0 ([] : List Str))
          else
            (K142 z25 u32 u34 u245 ([] : Str) 0 ([] : List Str)))
        else
          (jn (fun (y260 : Bool) =>
            bif y260 then
              ((gi z4 3).bind fun u269 =>
              K142 z25 u32 u34 ([] : Str) u269 0 ([] : List Str))
            else
              (jn (fun (y276 : Bool) =>
                bif y276 then
                  ((gi z4 3).bind fun u285 =>
                  (Vm.strconv_Atoi u285).bind fun z288 =>
                  K142 z25 u32 u34 ([] : Str) ([] : Str) z288.1 ([] : List Str))
                else
                  (K142 z25 u32 u34 ([] : Str) ([] : Str) 0 ([] : List Str))) fun K278 =>
              bif ((z25 : Int) == (6 : Int)) then
                (K278 ((z25 : Int) == (6 : Int)))
              else
                (K278 ((z25 : Int) == (7 : Int))))) fun K262 =>
          bif ((z25 : Int) == (4 : Int)) then
            (K262 ((z25 : Int) == (4 : Int)))
          else
            (K262 ((z25 : Int) == (5 : Int)))))))

def laws_smTexts_l1 (x0 : List Str) (x1 : List Str) (K5 : Bool → Int → Option (Bool)) : Nat → Bool → Int → Option (Bool)
  | 0, _, _ => none
  | m + 1, y2, y3 =>
    bif decide ((y3 : Int) < ((x0.length : Int) : Int)) then
      ((gi x0 y3).bind fun u12 =>
      (gi x1 y3).bind fun u15 =>
      bif (u12 != u15) then
        (some false)
      else
        (laws_smTexts_l1 x0 x1 K5 m y2 (w64 (y3 + 1))))
    else
      (K5 y2 y3)

def laws_smTexts (x0 : List Str) (x1 : List Str) : Option (Bool) :=
  bif (((x0.length : Int) : Int) != ((x1.length : Int) : Int)) then
    (some false)
  else
    (jn (fun (y2 : Bool) (y3 : Int) =>
      some true) fun K5 =>
    laws_smTexts_l1 x0 x1 K5 (((x0.length : Int) - 0).toNat + 1) false 0)

def laws_smOp (x0 : Vm.Op) (x1 : Vm.Op) : Option (Bool) :=
  jn (fun (y6 : Bool) =>
    some y6) fun K8 =>
  bif ((x0.Kind : Int) == (x1.Kind : Int)) then
    (bif (x0.Branch == x1.Branch) then
      (bif (x0.Who == x1.Who) then
        (bif (x0.Path == x1.Path) then
          (bif (x0.To == x1.To) then
            (bif ((x0.At : Int) == (x1.At : Int)) then
              ((Vm.laws_smTexts x0.Text x1.Text).bind fun z20 =>
              K8 z20)
            else
              (K8 false))
          else
            (K8 false))
        else
          (K8 false))
      else
        (K8 false))
    else
      (K8 false))
  else
    (K8 false)

end Go.Vm
