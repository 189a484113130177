/- Models of the functions: plain Lean, printed by a program of ours. Conditions: none. -/
import Derived.Test.YtjdljoplpcakpaaXTy
namespace Go.Vm
open Go Go.Sx
set_option linter.unusedVariables false
set_option linter.unusedSimpArgs false

def laws_szStringS_l1 (x0 : List Str) (K6 : Int → Int → Int → Option (Int)) : Nat → Int → Int → Int → Option (Int)
  | 0, _, _, _ => none
  | m + 1, y2, y3, y4 =>
    bif decide ((y4 : Int) < ((x0.length : Int) : Int)) then
      ((gi x0 y4).bind fun u11 =>
      bif decide ((w64 (y2 - (u11.length : Int)) : Int) < (0 : Int)) then
        (some (-1))
      else
        (laws_szStringS_l1 x0 K6 m (w64 (y2 - (u11.length : Int))) y3 (w64 (y4 + 1))))
    else
      (K6 y2 y3 y4)

def laws_szStringS (x0 : List Str) (x1 : Int) : Option (Int) :=
  bif decide ((w64 (x1 - (x0.length : Int)) : Int) < (0 : Int)) then
    (some (-1))
  else
    (jn (fun (y2 : Int) (y3 : Int) (y4 : Int) =>
      some y2) fun K6 =>
    laws_szStringS_l1 x0 K6 (((x0.length : Int) - 0).toNat + 1) (w64 (x1 - (x0.length : Int))) 0 0)

def laws_szMemo (x0 : Vm.Memo) (x1 : Int) : Option (Int) :=
  (Vm.laws_szStringS x0.Old x1).bind fun z4 =>
  bif decide ((z4 : Int) < (0 : Int)) then
    (some (-1))
  else
    ((Vm.laws_szStringS x0.One z4).bind fun z11 =>
    bif decide ((z11 : Int) < (0 : Int)) then
      (some (-1))
    else
      ((Vm.laws_szStringS x0.Two z11).bind fun z18 =>
      bif decide ((z18 : Int) < (0 : Int)) then
        (some (-1))
      else
        ((Vm.laws_szStringS x0.Done z18).bind fun z25 =>
        bif decide ((z25 : Int) < (0 : Int)) then
          (some (-1))
        else
          (some z25))))

def laws_szMemoS_l1 (x0 : List Vm.Memo) (K6 : Int → Int → Int → Option (Int)) : Nat → Int → Int → Int → Option (Int)
  | 0, _, _, _ => none
  | m + 1, y2, y3, y4 =>
    bif decide ((y4 : Int) < ((x0.length : Int) : Int)) then
      ((gi x0 y4).bind fun u11 =>
      (Vm.laws_szMemo u11 y2).bind fun z24 =>
      bif decide ((z24 : Int) < (0 : Int)) then
        (some (-1))
      else
        (laws_szMemoS_l1 x0 K6 m z24 y3 (w64 (y4 + 1))))
    else
      (K6 y2 y3 y4)

def laws_szMemoS (x0 : List Vm.Memo) (x1 : Int) : Option (Int) :=
  bif decide ((w64 (x1 - (x0.length : Int)) : Int) < (0 : Int)) then
    (some (-1))
  else
    (jn (fun (y2 : Int) (y3 : Int) (y4 : Int) =>
      some y2) fun K6 =>
    laws_szMemoS_l1 x0 K6 (((x0.length : Int) - 0).toNat + 1) (w64 (x1 - (x0.length : Int))) 0 0)

def laws_toStringS_l1 (x0 : List Str) (K9 : Int → List Str → Option ((List Str))) : Nat → Int → List Str → Option ((List Str))
  | 0, _, _ => none
  | m + 1, y5, y6 =>
    bif decide ((y5 : Int) < ((x0.length : Int) : Int)) then
      ((gi x0 y5).bind fun u14 =>
      (gi y6 y5).bind fun u16 =>
      (siM y6 y5 u14).bind fun q19 =>
      laws_toStringS_l1 x0 K9 m (w64 (y5 + 1)) q19)
    else
      (K9 y5 y6)

def laws_toStringS (x0 : List Str) : Option ((List Str)) :=
  (mkM (x0.length : Int) (([] : Str) : Str)).bind fun q1 =>
  jn (fun (y5 : Int) (y6 : List Str) =>
    some y6) fun K9 =>
  laws_toStringS_l1 x0 K9 (((x0.length : Int) - 0).toNat + 1) 0 q1

def laws_toMemo (x0 : Vm.Memo) : Option (Vm.Memo) :=
  (Vm.laws_toStringS x0.Old).bind fun z11 =>
  (Vm.laws_toStringS x0.One).bind fun z24 =>
  (Vm.laws_toStringS x0.Two).bind fun z39 =>
  (Vm.laws_toStringS x0.Done).bind fun z56 =>
  some (Vm.Memo.mk z11 z24 z39 z56)

def laws_toMemoS_l1 (x0 : List Vm.Memo) (K9 : Int → List Vm.Memo → Option ((List Vm.Memo))) : Nat → Int → List Vm.Memo → Option ((List Vm.Memo))
  | 0, _, _ => none
  | m + 1, y5, y6 =>
    bif decide ((y5 : Int) < ((x0.length : Int) : Int)) then
      ((gi x0 y5).bind fun u14 =>
      (Vm.laws_toMemo u14).bind fun z27 =>
      (gi y6 y5).bind fun u32 =>
      (siM y6 y5 (Vm.Memo.mk z27.Old z27.One z27.Two z27.Done)).bind fun q35 =>
      laws_toMemoS_l1 x0 K9 m (w64 (y5 + 1)) q35)
    else
      (K9 y5 y6)

def laws_toMemoS (x0 : List Vm.Memo) : Option ((List Vm.Memo)) :=
  (mkM (x0.length : Int) (Vm.Memo.mk ([] : List Str) ([] : List Str) ([] : List Str) ([] : List Str) : Memo)).bind fun q1 =>
  jn (fun (y5 : Int) (y6 : List Vm.Memo) =>
    some y6) fun K9 =>
  laws_toMemoS_l1 x0 K9 (((x0.length : Int) - 0).toNat + 1) 0 q1

def spec_l1Line_l1 (x0 : Str) (K4 : Bool → Int → Option (Bool)) : Nat → Bool → Int → Option (Bool)
  | 0, _, _ => none
  | m + 1, y1, y2 =>
    bif decide ((y2 : Int) < ((x0.length : Int) : Int)) then
      (jn (fun (y8 : Bool) =>
        bif y8 then
          (some false)
        else
          (spec_l1Line_l1 x0 K4 m y1 (w64 (y2 + 1)))) fun K10 =>
      (chM x0 y2).bind fun u13 =>
      bif decide (((UInt8.toNat u13 : Int) : Int) < (32 : Int)) then
        (K10 true)
      else
        ((chM x0 y2).bind fun u16 =>
        K10 (decide ((126 : Int) < ((UInt8.toNat u16 : Int) : Int)))))
    else
      (K4 y1 y2)

def spec_l1Line (x0 : Str) : Option (Bool) :=
  jn (fun (y1 : Bool) (y2 : Int) =>
    some (decide (((x0.length : Int) : Int) ≤ (12 : Int)))) fun K4 =>
  spec_l1Line_l1 x0 K4 (((x0.length : Int) - 0).toNat + 1) false 0

def spec_l1Ok_l1 (x0 : List Str) (K4 : Bool → Int → Option (Bool)) : Nat → Bool → Int → Option (Bool)
  | 0, _, _ => none
  | m + 1, y1, y2 =>
    bif decide ((y2 : Int) < ((x0.length : Int) : Int)) then
      ((gi x0 y2).bind fun u9 =>
      (Vm.spec_l1Line u9).bind fun z11 =>
      bif (!z11) then
        (some false)
      else
        (spec_l1Ok_l1 x0 K4 m y1 (w64 (y2 + 1))))
    else
      (K4 y1 y2)

def spec_l1Ok (x0 : List Str) : Option (Bool) :=
  jn (fun (y1 : Bool) (y2 : Int) =>
    some (decide (((x0.length : Int) : Int) ≤ (10 : Int)))) fun K4 =>
  spec_l1Ok_l1 x0 K4 (((x0.length : Int) - 0).toNat + 1) false 0

def spec_l1Same_l1 (x0 : List Str) (x1 : List Str) (K5 : Bool → Int → Option (Bool)) : Nat → Bool → Int → Option (Bool)
  | 0, _, _ => none
  | m + 1, y2, y3 =>
    bif decide ((y3 : Int) < ((x0.length : Int) : Int)) then
      ((gi x0 y3).bind fun u12 =>
      (gi x1 y3).bind fun u15 =>
      bif (u12 != u15) then
        (some false)
      else
        (spec_l1Same_l1 x0 x1 K5 m y2 (w64 (y3 + 1))))
    else
      (K5 y2 y3)

def spec_l1Same (x0 : List Str) (x1 : List Str) : Option (Bool) :=
  bif (((x0.length : Int) : Int) != ((x1.length : Int) : Int)) then
    (some false)
  else
    (jn (fun (y2 : Bool) (y3 : Int) =>
      some true) fun K5 =>
    spec_l1Same_l1 x0 x1 K5 (((x0.length : Int) - 0).toNat + 1) false 0)

def spec_l18Same (x0 : Vm.Memo) (x1 : List Str) (x2 : List Str) (x3 : List Str) : Option (Bool) :=
  jn (fun (y3 : Bool) =>
    some y3) fun K5 =>
  (Vm.spec_l1Same x0.Old x1).bind fun z10 =>
  bif z10 then
    ((Vm.spec_l1Same x0.One x2).bind fun z18 =>
    bif z18 then
      ((Vm.spec_l1Same x0.Two x3).bind fun z26 =>
      bif z26 then
        (K5 true)
      else
        ((Vm.spec_l1Same x0.One x3).bind fun z34 =>
        bif z34 then
          ((Vm.spec_l1Same x0.Two x2).bind fun z42 =>
          K5 z42)
        else
          (K5 false)))
    else
      ((Vm.spec_l1Same x0.One x3).bind fun z49 =>
      bif z49 then
        ((Vm.spec_l1Same x0.Two x2).bind fun z57 =>
        K5 z57)
      else
        (K5 false)))
  else
    (K5 false)

def spec_l18Ok_l2 (x0 : List Vm.Memo) (y2 : Int) (u11 : Vm.Memo) (K37 : Bool → Int → Option (Bool)) : Nat → Bool → Int → Option (Bool)
  | 0, _, _ => none
  | m + 1, y34, y35 =>
    bif decide ((y35 : Int) < (y2 : Int)) then
      ((gi x0 y35).bind fun u45 =>
      (Vm.spec_l18Same u45 u11.Old u11.One u11.Two).bind fun z62 =>
      bif z62 then
        (some false)
      else
        (spec_l18Ok_l2 x0 y2 u11 K37 m y34 (w64 (y35 + 1))))
    else
      (K37 y34 y35)

def spec_l18Ok_l1 (x0 : List Vm.Memo) (K6 : Bool → Int → Option (Bool)) : Nat → Bool → Int → Option (Bool)
  | 0, _, _ => none
  | m + 1, y1, y2 =>
    bif decide ((y2 : Int) < ((x0.length : Int) : Int)) then
      ((gi x0 y2).bind fun u11 =>
      jn (fun (y28 : Bool) =>
        bif y28 then
          (some false)
        else
          (jn (fun (y34 : Bool) (y35 : Int) =>
            spec_l18Ok_l1 x0 K6 m y34 (w64 (y2 + 1))) fun K37 =>
          spec_l18Ok_l2 x0 y2 u11 K37 ((y2 - 0).toNat + 1) y1 0)) fun K30 =>
      (Vm.spec_l1Ok u11.Old).bind fun z69 =>
      bif (!z69) then
        (K30 true)
      else
        ((Vm.spec_l1Ok u11.One).bind fun z76 =>
        bif (!z76) then
          (K30 true)
        else
          ((Vm.spec_l1Ok u11.Two).bind fun z83 =>
          bif (!z83) then
            (K30 true)
          else
            ((Vm.spec_l1Ok u11.Done).bind fun z90 =>
            bif (!z90) then
              (K30 true)
            else
              ((Vm.spec_l1Same u11.One u11.Two).bind fun z98 =>
              K30 z98)))))
    else
      (K6 y1 y2)

def spec_l18Ok (x0 : List Vm.Memo) : Option (Bool) :=
  jn (fun (y1 : Bool) (y2 : Int) =>
    some (decide (((x0.length : Int) : Int) ≤ (5 : Int)))) fun K6 =>
  spec_l18Ok_l1 x0 K6 (((x0.length : Int) - 0).toNat + 1) false 0

def spec_MemosOk (x0 : List Vm.Memo) : Option (Bool) :=
  (Vm.spec_l18Ok x0).bind fun z1 =>
  some z1

def impl_lineOk_l1 (x0 : Str) (K5 : Bool → Int → Option (Bool)) : Nat → Bool → Int → Option (Bool)
  | 0, _, _ => none
  | m + 1, y2, y3 =>
    bif decide ((y3 : Int) < ((x0.length : Int) : Int)) then
      (jn (fun (y9 : Bool) =>
        bif y9 then
          (some false)
        else
          (impl_lineOk_l1 x0 K5 m y2 (w64 (y3 + 1)))) fun K11 =>
      (chM x0 y3).bind fun u14 =>
      bif decide (((UInt8.toNat u14 : Int) : Int) < (32 : Int)) then
        (K11 true)
      else
        ((chM x0 y3).bind fun u17 =>
        K11 (decide ((126 : Int) < ((UInt8.toNat u17 : Int) : Int)))))
    else
      (K5 y2 y3)

def impl_lineOk (x0 : Str) : Option (Bool) :=
  bif decide ((12 : Int) < ((x0.length : Int) : Int)) then
    (some false)
  else
    (jn (fun (y2 : Bool) (y3 : Int) =>
      some true) fun K5 =>
    impl_lineOk_l1 x0 K5 (((x0.length : Int) - 0).toNat + 1) false 0)

def impl_TextOk_l1 (x0 : List Str) (K6 : Bool → Int → Option (Bool)) : Nat → Bool → Int → Option (Bool)
  | 0, _, _ => none
  | m + 1, y2, y4 =>
    bif decide ((y4 : Int) < ((x0.length : Int) : Int)) then
      ((gi x0 y4).bind fun u10 =>
      (Vm.impl_lineOk u10).bind fun z13 =>
      bif (!z13) then
        (some false)
      else
        (impl_TextOk_l1 x0 K6 m y2 (w64 (y4 + 1))))
    else
      (K6 y2 y4)

def impl_TextOk (x0 : List Str) : Option (Bool) :=
  bif decide ((10 : Int) < ((x0.length : Int) : Int)) then
    (some false)
  else
    (jn (fun (y2 : Bool) (y4 : Int) =>
      some true) fun K6 =>
    impl_TextOk_l1 x0 K6 (((x0.length : Int) - 0).toNat + 1) false 0)

def impl_areTexts (x0 : List Str) (x1 : List Str) (x2 : List Str) : Option (Bool) :=
  jn (fun (y1 : Bool) =>
    some y1) fun K3 =>
  (Vm.impl_TextOk x0).bind fun z5 =>
  bif z5 then
    ((Vm.impl_TextOk x1).bind fun z11 =>
    bif z11 then
      ((Vm.impl_TextOk x2).bind fun z17 =>
      K3 z17)
    else
      (K3 false))
  else
    (K3 false)

def slices_Equal_string_string_l1 (x0 : List Str) (x1 : List Str) (K6 : Bool → Int → Option (Bool)) : Nat → Bool → Int → Option (Bool)
  | 0, _, _ => none
  | m + 1, y2, y4 =>
    bif decide ((y4 : Int) < ((x0.length : Int) : Int)) then
      ((gi x0 y4).bind fun u12 =>
      (gi x1 y4).bind fun u15 =>
      bif (u12 != u15) then
        (some false)
      else
        (slices_Equal_string_string_l1 x0 x1 K6 m y2 (w64 (y4 + 1))))
    else
      (K6 y2 y4)

def slices_Equal_string_string (x0 : List Str) (x1 : List Str) : Option (Bool) :=
  bif (((x0.length : Int) : Int) != ((x1.length : Int) : Int)) then
    (some false)
  else
    (jn (fun (y2 : Bool) (y4 : Int) =>
      some true) fun K6 =>
    slices_Equal_string_string_l1 x0 x1 K6 (((x0.length : Int) - 0).toNat + 1) false 0)

def impl_Memo_is (x0 : Vm.Memo) (x1 : List Str) (x2 : List Str) (x3 : List Str) : Option (Bool) :=
  (Vm.slices_Equal_string_string x0.Old x1).bind fun z5 =>
  bif (!z5) then
    (some false)
  else
    (jn (fun (y11 : Bool) =>
      some y11) fun K13 =>
    (Vm.slices_Equal_string_string x0.One x2).bind fun z18 =>
    bif z18 then
      ((Vm.slices_Equal_string_string x0.Two x3).bind fun z26 =>
      bif z26 then
        (K13 true)
      else
        ((Vm.slices_Equal_string_string x0.One x3).bind fun z34 =>
        bif z34 then
          ((Vm.slices_Equal_string_string x0.Two x2).bind fun z42 =>
          K13 z42)
        else
          (K13 false)))
    else
      ((Vm.slices_Equal_string_string x0.One x3).bind fun z49 =>
      bif z49 then
        ((Vm.slices_Equal_string_string x0.Two x2).bind fun z57 =>
        K13 z57)
      else
        (K13 false)))

def impl_MemosOk_l2 (u12 : Vm.Memo) (q36 : List Vm.Memo) (K45 : Bool → Int → Option (Bool)) : Nat → Bool → Int → Option (Bool)
  | 0, _, _ => none
  | m + 1, y41, y43 =>
    bif decide ((y43 : Int) < ((q36.length : Int) : Int)) then
      ((gi q36 y43).bind fun u50 =>
      (Vm.impl_Memo_is u50 u12.Old u12.One u12.Two).bind fun z77 =>
      bif z77 then
        (some false)
      else
        (impl_MemosOk_l2 u12 q36 K45 m y41 (w64 (y43 + 1))))
    else
      (K45 y41 y43)

def impl_MemosOk_l1 (x0 : List Vm.Memo) (K8 : Bool → Int → Option (Bool)) : Nat → Bool → Int → Option (Bool)
  | 0, _, _ => none
  | m + 1, y2, y6 =>
    bif decide ((y6 : Int) < ((x0.length : Int) : Int)) then
      ((gi x0 y6).bind fun u12 =>
      jn (fun (y30 : Bool) =>
        bif y30 then
          (some false)
        else
          ((slM x0 0 y6).bind fun q36 =>
          jn (fun (y41 : Bool) (y43 : Int) =>
            impl_MemosOk_l1 x0 K8 m y41 (w64 (y6 + 1))) fun K45 =>
          impl_MemosOk_l2 u12 q36 K45 (((q36.length : Int) - 0).toNat + 1) y2 0)) fun K32 =>
      (Vm.impl_areTexts u12.Old u12.One u12.Two).bind fun z87 =>
      bif (!z87) then
        (K32 true)
      else
        ((Vm.impl_TextOk u12.Done).bind fun z94 =>
        bif (!z94) then
          (K32 true)
        else
          ((Vm.slices_Equal_string_string u12.One u12.Two).bind fun z102 =>
          K32 z102)))
    else
      (K8 y2 y6)

def impl_MemosOk (x0 : List Vm.Memo) : Option (Bool) :=
  bif decide ((5 : Int) < ((x0.length : Int) : Int)) then
    (some false)
  else
    (jn (fun (y2 : Bool) (y6 : Int) =>
      some true) fun K8 =>
    impl_MemosOk_l1 x0 K8 (((x0.length : Int) - 0).toNat + 1) false 0)

def laws_eqStringS_l1 (x0 : List Str) (x1 : List Str) (K5 : Bool → Int → Option (Bool)) : Nat → Bool → Int → Option (Bool)
  | 0, _, _ => none
  | m + 1, y2, y3 =>
    bif decide ((y3 : Int) < ((x0.length : Int) : Int)) then
      ((gi x0 y3).bind fun u12 =>
      (gi x1 y3).bind fun u15 =>
      bif (u12 != u15) then
        (some false)
      else
        (laws_eqStringS_l1 x0 x1 K5 m y2 (w64 (y3 + 1))))
    else
      (K5 y2 y3)

def laws_eqStringS (x0 : List Str) (x1 : List Str) : Option (Bool) :=
  bif (((x0.length : Int) : Int) != ((x1.length : Int) : Int)) then
    (some false)
  else
    (jn (fun (y2 : Bool) (y3 : Int) =>
      some true) fun K5 =>
    laws_eqStringS_l1 x0 x1 K5 (((x0.length : Int) - 0).toNat + 1) false 0)

def laws_eqMemo (x0 : Vm.Memo) (x1 : Vm.Memo) : Option (Bool) :=
  (Vm.laws_eqStringS x0.Old x1.Old).bind fun z8 =>
  bif (!z8) then
    (some false)
  else
    ((Vm.laws_eqStringS x0.One x1.One).bind fun z17 =>
    bif (!z17) then
      (some false)
    else
      ((Vm.laws_eqStringS x0.Two x1.Two).bind fun z26 =>
      bif (!z26) then
        (some false)
      else
        ((Vm.laws_eqStringS x0.Done x1.Done).bind fun z35 =>
        bif (!z35) then
          (some false)
        else
          (some true))))

def laws_eqMemoS_l1 (x0 : List Vm.Memo) (x1 : List Vm.Memo) (K5 : Bool → Int → Option (Bool)) : Nat → Bool → Int → Option (Bool)
  | 0, _, _ => none
  | m + 1, y2, y3 =>
    bif decide ((y3 : Int) < ((x0.length : Int) : Int)) then
      ((gi x0 y3).bind fun u12 =>
      (gi x1 y3).bind fun u26 =>
      (Vm.laws_eqMemo u12 u26).bind fun z40 =>
      bif (!z40) then
        (some false)
      else
        (laws_eqMemoS_l1 x0 x1 K5 m y2 (w64 (y3 + 1))))
    else
      (K5 y2 y3)

def laws_eqMemoS (x0 : List Vm.Memo) (x1 : List Vm.Memo) : Option (Bool) :=
  bif (((x0.length : Int) : Int) != ((x1.length : Int) : Int)) then
    (some false)
  else
    (jn (fun (y2 : Bool) (y3 : Int) =>
      some true) fun K5 =>
    laws_eqMemoS_l1 x0 x1 K5 (((x0.length : Int) - 0).toNat + 1) false 0)

def laws_FnExactMemosOk (x0 : List Vm.Memo) : Option (Bool) :=
  (Vm.laws_szMemoS x0 1048576).bind fun z1 =>
  bif decide ((z1 : Int) < (0 : Int)) then
    (some true)
  else
    ((Vm.laws_toMemoS x0).bind fun z7 =>
    (Vm.spec_MemosOk z7).bind fun z11 =>
    (Vm.laws_toMemoS x0).bind fun z17 =>
    (Vm.impl_MemosOk z17).bind fun z22 =>
    bif (z22 != z11) then
      (some false)
    else
      ((Vm.laws_toMemoS x0).bind fun z30 =>
      (Vm.laws_eqMemoS z17 z30).bind fun z36 =>
      bif (!z36) then
        (some false)
      else
        (some true)))

def spec_l30Open (x0 : List Byte) : Option (Vm.l30Rd) :=
  jn (fun (y1 : List Byte) =>
    some (Vm.l30Rd.mk y1 0)) fun K5 =>
  bif decide ((2000 : Int) < ((x0.length : Int) : Int)) then
    ((slM x0 0 2000).bind fun q13 =>
    K5 q13)
  else
    (K5 x0)

def spec_l30Rd_pick (x0 : Vm.l30Rd) (x1 : Int) : Option (Int × Int) :=
  jn (fun (y3 : Bool) =>
    bif y3 then
      (some (0, w64 (x0.p + 1)))
    else
      (bif decide ((w64 ((w64 (x0.p + 1)) - 1) : Int) < ((x0.b.length : Int) : Int)) then
        ((gi x0.b (w64 ((w64 (x0.p + 1)) - 1))).bind fun u11 =>
        (if (x1 : Int) = 0 then none else some ()).bind fun _ =>
        some (Int.tmod (w64 (UInt8.toNat u11 : Int)) x1, w64 (x0.p + 1)))
      else
        ((if ((x0.b.length : Int) : Int) = 0 then none else some ()).bind fun _ =>
        (gi x0.b (Int.tmod (w64 ((w64 (x0.p + 1)) - 1)) (x0.b.length : Int))).bind fun u19 =>
        (if ((x0.b.length : Int) : Int) = 0 then none else some ()).bind fun _ =>
        (gi x0.b (Int.tmod (w64 ((w64 ((w64 ((w64 (x0.p + 1)) - 1)) * 7)) + 3)) (x0.b.length : Int))).bind fun u22 =>
        (if ((x0.b.length : Int) : Int) = 0 then none else some ()).bind fun _ =>
        (if (x1 : Int) = 0 then none else some ()).bind fun _ =>
        some (Int.tmod (xor64 (w64 ((w64 ((w64 ((w64 ((w64 (UInt8.toNat u19 : Int)) * 131)) + (w64 ((w64 (UInt8.toNat u22 : Int)) * 1117)))) + (w64 ((w64 ((w64 (x0.p + 1)) - 1)) * 29)))) + (w64 ((w64 (Int.tdiv (w64 ((w64 (x0.p + 1)) - 1)) (x0.b.length : Int))) * 53)))) (w64 (Int.tdiv (w64 ((w64 ((w64 ((w64 ((w64 (UInt8.toNat u19 : Int)) * 131)) + (w64 ((w64 (UInt8.toNat u22 : Int)) * 1117)))) + (w64 ((w64 ((w64 (x0.p + 1)) - 1)) * 29)))) + (w64 ((w64 (Int.tdiv (w64 ((w64 (x0.p + 1)) - 1)) (x0.b.length : Int))) * 53)))) 64))) x1, w64 (x0.p + 1))))) fun K5 =>
  bif decide ((x1 : Int) < (1 : Int)) then
    (K5 true)
  else
    (K5 (((x0.b.length : Int) : Int) == (0 : Int)))

def spec_l30Short (x0 : Vm.l30Rd) : Option ((List Str) × Int) :=
  (Vm.spec_l30Rd_pick x0 4).bind fun z17 =>
  (gi ([([] : List Str), ([([97] : Str)] : List Str), ([([98] : Str)] : List Str), ([([99] : Str), ([100] : Str)] : List Str)] : List (List Str)) z17.1).bind fun u22 =>
  some (u22, z17.2)

def spec_l30Memo (x0 : Vm.l30Rd) : Option (Vm.Memo × Int) :=
  (Vm.spec_l30Short x0).bind fun z5 =>
  (Vm.spec_l30Short (Vm.l30Rd.mk x0.b z5.2)).bind fun z11 =>
  (Vm.spec_l30Short (Vm.l30Rd.mk x0.b z11.2)).bind fun z18 =>
  (Vm.spec_l30Short (Vm.l30Rd.mk x0.b z18.2)).bind fun z26 =>
  some (Vm.Memo.mk z5.1 z11.1 z18.1 z26.1, z26.2)

def spec_l18Copy (x0 : Vm.Memo) : Option (Vm.Memo) :=
  (apM ([] : List Str) x0.Old).bind fun q14 =>
  (apM ([] : List Str) x0.One).bind fun q26 =>
  (apM ([] : List Str) x0.Two).bind fun q40 =>
  (apM ([] : List Str) x0.Done).bind fun q56 =>
  some (Vm.Memo.mk q14 q26 q40 q56)

def spec_l18All_l1 (x0 : List Vm.Memo) (K8 : List Vm.Memo → Int → Option ((List Vm.Memo))) : Nat → List Vm.Memo → Int → Option ((List Vm.Memo))
  | 0, _, _ => none
  | m + 1, y3, y6 =>
    bif decide ((y6 : Int) < ((x0.length : Int) : Int)) then
      ((gi x0 y6).bind fun u13 =>
      (Vm.spec_l18Copy u13).bind fun z26 =>
      (apM y3 [Vm.Memo.mk z26.Old z26.One z26.Two z26.Done]).bind fun q38 =>
      spec_l18All_l1 x0 K8 m q38 (w64 (y6 + 1)))
    else
      (K8 y3 y6)

def spec_l18All (x0 : List Vm.Memo) : Option ((List Vm.Memo)) :=
  jn (fun (y3 : List Vm.Memo) (y6 : Int) =>
    some y3) fun K8 =>
  spec_l18All_l1 x0 K8 (((x0.length : Int) - 0).toNat + 1) ([] : List Memo) 0

def spec_MemoPut_l1 (x0 : List Vm.Memo) (x1 : Vm.Memo) (K18 : List Vm.Memo → Int → Option ((List Vm.Memo) × Bool)) : Nat → List Vm.Memo → Int → Option ((List Vm.Memo) × Bool)
  | 0, _, _ => none
  | m + 1, y13, y16 =>
    bif decide ((y16 : Int) < ((x0.length : Int) : Int)) then
      (jn (fun (y24 : List Vm.Memo) =>
        spec_MemoPut_l1 x0 x1 K18 m y24 (w64 (y16 + 1))) fun K28 =>
      (gi x0 y16).bind fun u35 =>
      (Vm.spec_l18Same u35 x1.Old x1.One x1.Two).bind fun z52 =>
      bif (!z52) then
        ((gi x0 y16).bind fun u59 =>
        (Vm.spec_l18Copy u59).bind fun z73 =>
        (apM y13 [Vm.Memo.mk z73.Old z73.One z73.Two z73.Done]).bind fun q87 =>
        K28 q87)
      else
        (K28 y13))
    else
      (K18 y13 y16)

def spec_MemoPut (x0 : List Vm.Memo) (x1 : Vm.Memo) : Option ((List Vm.Memo) × Bool) :=
  (Vm.spec_l18Ok x0).bind fun z4 =>
  bif (!z4) then
    (some (([] : List Memo), false))
  else
    (jn (fun (y13 : List Vm.Memo) (y16 : Int) =>
      (Vm.spec_l18Copy x1).bind fun z97 =>
      (apM y13 [Vm.Memo.mk z97.Old z97.One z97.Two z97.Done]).bind fun q111 =>
      (Vm.spec_l18Ok q111).bind fun z117 =>
      bif (!z117) then
        ((Vm.spec_l18All x0).bind fun z126 =>
        some (z126, false))
      else
        (some (q111, true))) fun K18 =>
    spec_MemoPut_l1 x0 x1 K18 (((x0.length : Int) - 0).toNat + 1) ([] : List Memo) 0)

def spec_l30Memos_l1 (x0 : Vm.l30Rd) (K19 : List Vm.Memo → Int → Int → Option ((List Vm.Memo) × Int)) : Nat → List Vm.Memo → Int → Int → Option ((List Vm.Memo) × Int)
  | 0, _, _, _ => none
  | m + 1, y10, y13, y16 =>
    bif decide ((0 : Int) < (y13 : Int)) then
      (jn (fun (y23 : List Vm.Memo) (y28 : Int) =>
        spec_l30Memos_l1 x0 K19 m y23 (w64 (y13 - 1)) y28) fun K31 =>
      (Vm.spec_l30Memo (Vm.l30Rd.mk x0.b y16)).bind fun z34 =>
      (Vm.spec_MemoPut y10 (Vm.Memo.mk z34.1.Old z34.1.One z34.1.Two z34.1.Done)).bind fun z39 =>
      bif z39.2 then
        (K31 z39.1 z34.2)
      else
        (K31 y10 z34.2))
    else
      (K19 y10 y13 y16)

def spec_l30Memos (x0 : Vm.l30Rd) : Option ((List Vm.Memo) × Int) :=
  (Vm.spec_l30Rd_pick x0 5).bind fun z5 =>
  jn (fun (y10 : List Vm.Memo) (y13 : Int) (y16 : Int) =>
    (Vm.spec_l30Rd_pick (Vm.l30Rd.mk x0.b y16) 14).bind fun z58 =>
    bif ((z58.1 : Int) == (0 : Int)) then
      ((Vm.spec_l30Memo (Vm.l30Rd.mk x0.b z58.2)).bind fun z65 =>
      (apM y10 [Vm.Memo.mk z65.1.Old z65.1.One z65.1.Two z65.1.Done]).bind fun q78 =>
      some (q78, z65.2))
    else
      (some (y10, z58.2))) fun K19 =>
  spec_l30Memos_l1 x0 K19 ((z5.1 - 0).toNat + 1) ([] : List Memo) z5.1 z5.2

def spec_DrawMemoPut (x0 : List Byte) : Option ((List Vm.Memo) × Vm.Memo) :=
  (Vm.spec_l30Open x0).bind fun z4 =>
  (Vm.spec_l30Memos z4).bind fun z10 =>
  (Vm.spec_l30Memo (Vm.l30Rd.mk z4.b z10.2)).bind fun z16 =>
  some (z10.1, Vm.Memo.mk z16.1.Old z16.1.One z16.1.Two z16.1.Done)

def impl_copyText (x0 : List Str) : Option ((List Str)) :=
  (apM ([] : List Str) x0).bind fun q3 =>
  some q3

def impl_Memo_own (x0 : Vm.Memo) : Option (Vm.Memo) :=
  (Vm.impl_copyText x0.Old).bind fun z11 =>
  (Vm.impl_copyText x0.One).bind fun z18 =>
  (Vm.impl_copyText x0.Two).bind fun z26 =>
  (Vm.impl_copyText x0.Done).bind fun z35 =>
  some (Vm.Memo.mk z11 z18 z26 z35)

def impl_ownMemos_l1 (x0 : List Vm.Memo) (K7 : List Vm.Memo → Int → Option ((List Vm.Memo))) : Nat → List Vm.Memo → Int → Option ((List Vm.Memo))
  | 0, _, _ => none
  | m + 1, y1, y5 =>
    bif decide ((y5 : Int) < ((x0.length : Int) : Int)) then
      ((gi x0 y5).bind fun u11 =>
      (Vm.impl_Memo_own u11).bind fun z35 =>
      (apM y1 [Vm.Memo.mk z35.Old z35.One z35.Two z35.Done]).bind fun q49 =>
      impl_ownMemos_l1 x0 K7 m q49 (w64 (y5 + 1)))
    else
      (K7 y1 y5)

def impl_ownMemos (x0 : List Vm.Memo) : Option ((List Vm.Memo)) :=
  jn (fun (y1 : List Vm.Memo) (y5 : Int) =>
    some y1) fun K7 =>
  impl_ownMemos_l1 x0 K7 (((x0.length : Int) - 0).toNat + 1) ([] : List Memo) 0

def impl_MemoPut_l1 (x0 : List Vm.Memo) (x1 : Vm.Memo) (K17 : List Vm.Memo → Int → Option ((List Vm.Memo) × Bool)) : Nat → List Vm.Memo → Int → Option ((List Vm.Memo) × Bool)
  | 0, _, _ => none
  | m + 1, y11, y15 =>
    bif decide ((y15 : Int) < ((x0.length : Int) : Int)) then
      (jn (fun (y22 : List Vm.Memo) =>
        impl_MemoPut_l1 x0 x1 K17 m y22 (w64 (y15 + 1))) fun K27 =>
      (gi x0 y15).bind fun u30 =>
      (Vm.impl_Memo_is u30 x1.Old x1.One x1.Two).bind fun z59 =>
      bif (!z59) then
        ((Vm.impl_Memo_own u30).bind fun z71 =>
        (apM y11 [Vm.Memo.mk z71.Old z71.One z71.Two z71.Done]).bind fun q87 =>
        K27 q87)
      else
        (K27 y11))
    else
      (K17 y11 y15)

def impl_MemoPut (x0 : List Vm.Memo) (x1 : Vm.Memo) : Option ((List Vm.Memo) × Bool) :=
  (Vm.impl_MemosOk x0).bind fun z4 =>
  bif (!z4) then
    (some (([] : List Memo), false))
  else
    (jn (fun (y11 : List Vm.Memo) (y15 : Int) =>
      (Vm.impl_Memo_own x1).bind fun z98 =>
      (apM y11 [Vm.Memo.mk z98.Old z98.One z98.Two z98.Done]).bind fun q112 =>
      (Vm.impl_MemosOk q112).bind fun z118 =>
      bif (!z118) then
        ((Vm.impl_ownMemos x0).bind fun z127 =>
        some (z127, false))
      else
        (some (q112, true))) fun K17 =>
    impl_MemoPut_l1 x0 x1 K17 (((x0.length : Int) - 0).toNat + 1) ([] : List Memo) 0)

def laws_smTexts_l1 (x0 : List Str) (x1 : List Str) (K5 : Bool → Int → Option (Bool)) : Nat → Bool → Int → Option (Bool)
  | 0, _, _ => none
  | m + 1, y2, y3 =>
    bif decide ((y3 : Int) < ((x0.length : Int) : Int)) then
      ((gi x0 y3).bind fun u12 =>
      (gi x1 y3).bind fun u15 =>
      bif (u12 != u15) then
        (some false)
      else
        (laws_smTexts_l1 x0 x1 K5 m y2 (w64 (y3 + 1))))
    else
      (K5 y2 y3)

def laws_smTexts (x0 : List Str) (x1 : List Str) : Option (Bool) :=
  bif (((x0.length : Int) : Int) != ((x1.length : Int) : Int)) then
    (some false)
  else
    (jn (fun (y2 : Bool) (y3 : Int) =>
      some true) fun K5 =>
    laws_smTexts_l1 x0 x1 K5 (((x0.length : Int) - 0).toNat + 1) false 0)

def laws_smMemos_l1 (x0 : List Vm.Memo) (x1 : List Vm.Memo) (K5 : Bool → Int → Option (Bool)) : Nat → Bool → Int → Option (Bool)
  | 0, _, _ => none
  | m + 1, y2, y3 =>
    bif decide ((y3 : Int) < ((x0.length : Int) : Int)) then
      (jn (fun (y10 : Bool) =>
        bif y10 then
          (some false)
        else
          (laws_smMemos_l1 x0 x1 K5 m y2 (w64 (y3 + 1)))) fun K12 =>
      (gi x0 y3).bind fun u17 =>
      (gi x1 y3).bind fun u23 =>
      (Vm.laws_smTexts u17.Old u23.Old).bind fun z29 =>
      bif (!z29) then
        (K12 true)
      else
        ((gi x0 y3).bind fun u34 =>
        (gi x1 y3).bind fun u39 =>
        (Vm.laws_smTexts u34.One u39.One).bind fun z46 =>
        bif (!z46) then
          (K12 true)
        else
          ((gi x0 y3).bind fun u51 =>
          (gi x1 y3).bind fun u56 =>
          (Vm.laws_smTexts u51.Two u56.Two).bind fun z63 =>
          bif (!z63) then
            (K12 true)
          else
            ((gi x0 y3).bind fun u68 =>
            (gi x1 y3).bind fun u73 =>
            (Vm.laws_smTexts u68.Done u73.Done).bind fun z80 =>
            K12 (!z80)))))
    else
      (K5 y2 y3)

def laws_smMemos (x0 : List Vm.Memo) (x1 : List Vm.Memo) : Option (Bool) :=
  bif (((x0.length : Int) : Int) != ((x1.length : Int) : Int)) then
    (some false)
  else
    (jn (fun (y2 : Bool) (y3 : Int) =>
      some true) fun K5 =>
    laws_smMemos_l1 x0 x1 K5 (((x0.length : Int) - 0).toNat + 1) false 0)

def laws_FnMemoPut (x0 : List Byte) : Option (Bool) :=
  bif decide ((1048576 : Int) < ((x0.length : Int) : Int)) then
    (some true)
  else
    ((Vm.spec_DrawMemoPut x0).bind fun z2 =>
    (Vm.impl_MemoPut z2.1 (Vm.Memo.mk z2.2.Old z2.2.One z2.2.Two z2.2.Done)).bind fun z20 =>
    (Vm.spec_MemoPut z2.1 (Vm.Memo.mk z2.2.Old z2.2.One z2.2.Two z2.2.Done)).bind fun z30 =>
    jn (fun (y41 : Bool) =>
      bif y41 then
        (jn (fun (y54 : Bool) =>
          some y54) fun K56 =>
        bif (z20.2 == z30.2) then
          ((Vm.laws_smMemos z20.1 z30.1).bind fun z67 =>
          bif z67 then
            ((Vm.impl_MemosOk z2.1).bind fun z80 =>
            (Vm.spec_MemosOk z2.1).bind fun z92 =>
            K56 (z80 == z92))
          else
            (K56 false))
        else
          (K56 false))
      else
        (bif (!z20.2) then
          ((Vm.laws_smMemos z20.1 z2.1).bind fun z105 =>
          some z105)
        else
          ((Vm.impl_MemoPut z20.1 (Vm.Memo.mk z2.2.Old z2.2.One z2.2.Two z2.2.Done)).bind fun z117 =>
          (Vm.impl_MemoPut z20.1 (Vm.Memo.mk z2.2.Old z2.2.Two z2.2.One z2.2.Done)).bind fun z151 =>
          jn (fun (y165 : Bool) =>
            some y165) fun K167 =>
          (Vm.impl_MemosOk z20.1).bind fun z180 =>
          bif z180 then
            (bif z117.2 then
              ((Vm.laws_smMemos z117.1 z20.1).bind fun z197 =>
              bif z197 then
                (bif z151.2 then
                  (K167 (((z151.1.length : Int) : Int) == ((z20.1.length : Int) : Int)))
                else
                  (K167 false))
              else
                (K167 false))
            else
              (K167 false))
          else
            (K167 false)))) fun K43 =>
    bif (z20.2 != z30.2) then
      (K43 true)
    else
      ((Vm.laws_smMemos z20.1 z30.1).bind fun z215 =>
      bif (!z215) then
        (K43 true)
      else
        ((Vm.impl_MemosOk z2.1).bind fun z228 =>
        (Vm.spec_MemosOk z2.1).bind fun z240 =>
        bif (z228 != z240) then
          (K43 true)
        else
          ((Vm.impl_MemosOk z2.1).bind fun z253 =>
          K43 (!z253)))))

def laws_markText_l1  (K5 : Int → Str → Option (Str)) : Nat → Int → Str → Option (Str)
  | 0, _, _ => none
  | m + 1, y2, y3 =>
    bif decide ((0 : Int) < (y2 : Int)) then
      ((saM (([(by8 (w64 (48 + (Int.tmod y2 10))))] : List Byte) : Str) y3).bind fun q11 =>
      laws_markText_l1 K5 m (w64 (Int.tdiv y2 10)) q11)
    else
      (K5 y2 y3)

def laws_markText (x0 : Int) : Option (Str) :=
  bif decide ((x0 : Int) ≤ (0 : Int)) then
    (some ([109, 48] : Str))
  else
    (jn (fun (y2 : Int) (y3 : Str) =>
      (saM ([109] : Str) y3).bind fun q13 =>
      some q13) fun K5 =>
    laws_markText_l1 K5 ((x0 - 0).toNat + 1) x0 ([] : Str))

def laws_markStringS_l1  (K6 : Int → Int → List Str → Option (Int × (List Str))) : Nat → Int → Int → List Str → Option (Int × (List Str))
  | 0, _, _, _ => none
  | m + 1, y1, y2, y3 =>
    bif decide ((y2 : Int) < ((y3.length : Int) : Int)) then
      ((Vm.laws_markText y1).bind fun z10 =>
      (gi y3 y2).bind fun u15 =>
      (siM y3 y2 z10).bind fun q18 =>
      laws_markStringS_l1 K6 m (w64 (y1 + 1)) (w64 (y2 + 1)) q18)
    else
      (K6 y1 y2 y3)

def laws_markStringS (x0 : List Str) (x1 : Int) : Option (Int × (List Str)) :=
  jn (fun (y1 : Int) (y2 : Int) (y3 : List Str) =>
    some (y1, y3)) fun K6 =>
  laws_markStringS_l1 K6 (((x0.length : Int) - 0).toNat + 1) x1 0 x0

def laws_markMemoS_l1  (K6 : Int → Int → List Vm.Memo → Option (Int × (List Vm.Memo))) : Nat → Int → Int → List Vm.Memo → Option (Int × (List Vm.Memo))
  | 0, _, _, _ => none
  | m + 1, y1, y2, y3 =>
    bif decide ((y2 : Int) < ((y3.length : Int) : Int)) then
      ((gi y3 y2).bind fun u10 =>
      (Vm.laws_markStringS u10.Old y1).bind fun z17 =>
      (siM y3 y2 (Vm.Memo.mk z17.2 u10.One u10.Two u10.Done)).bind fun q22_ =>
      (gi q22_ y2).bind fun u24 =>
      (Vm.laws_markStringS u24.One z17.1).bind fun z31 =>
      (siM q22_ y2 (Vm.Memo.mk u24.Old z31.2 u24.Two u24.Done)).bind fun q36_ =>
      (gi q36_ y2).bind fun u38 =>
      (Vm.laws_markStringS u38.Two z31.1).bind fun z45 =>
      (siM q36_ y2 (Vm.Memo.mk u38.Old u38.One z45.2 u38.Done)).bind fun q50_ =>
      (gi q50_ y2).bind fun u52 =>
      (Vm.laws_markStringS u52.Done z45.1).bind fun z59 =>
      (siM q50_ y2 (Vm.Memo.mk u52.Old u52.One u52.Two z59.2)).bind fun q64_ =>
      laws_markMemoS_l1 K6 m z59.1 (w64 (y2 + 1)) q64_)
    else
      (K6 y1 y2 y3)

def laws_markMemoS (x0 : List Vm.Memo) (x1 : Int) : Option (Int × (List Vm.Memo)) :=
  jn (fun (y1 : Int) (y2 : Int) (y3 : List Vm.Memo) =>
    some (y1, y3)) fun K6 =>
  laws_markMemoS_l1 K6 (((x0.length : Int) - 0).toNat + 1) x1 0 x0

def laws_markMemo (x0 : Vm.Memo) (x1 : Int) : Option (Int × Vm.Memo) :=
  (Vm.laws_markStringS x0.Old x1).bind fun z7 =>
  (Vm.laws_markStringS x0.One z7.1).bind fun z15 =>
  (Vm.laws_markStringS x0.Two z15.1).bind fun z23 =>
  (Vm.laws_markStringS x0.Done z23.1).bind fun z31 =>
  some (z31.1, Vm.Memo.mk z7.2 z15.2 z23.2 z31.2)

def laws_heldStringS_l1 (x0 : List Str) (K5 : Int → Int → Int → Option (Int)) : Nat → Int → Int → Int → Option (Int)
  | 0, _, _, _ => none
  | m + 1, y1, y2, y3 =>
    bif decide ((y3 : Int) < ((x0.length : Int) : Int)) then
      ((gi x0 y3).bind fun u12 =>
      (Vm.laws_markText y1).bind fun z15 =>
      bif (u12 != z15) then
        (some (-1))
      else
        (laws_heldStringS_l1 x0 K5 m (w64 (y1 + 1)) y2 (w64 (y3 + 1))))
    else
      (K5 y1 y2 y3)

def laws_heldStringS (x0 : List Str) (x1 : Int) : Option (Int) :=
  jn (fun (y1 : Int) (y2 : Int) (y3 : Int) =>
    some y1) fun K5 =>
  laws_heldStringS_l1 x0 K5 (((x0.length : Int) - 0).toNat + 1) x1 0 0

def laws_heldMemoS_l1 (x0 : List Vm.Memo) (K5 : Int → Int → Int → Option (Int)) : Nat → Int → Int → Int → Option (Int)
  | 0, _, _, _ => none
  | m + 1, y1, y2, y3 =>
    bif decide ((y3 : Int) < ((x0.length : Int) : Int)) then
      ((gi x0 y3).bind fun u10 =>
      (Vm.laws_heldStringS u10.Old y1).bind fun z15 =>
      bif decide ((z15 : Int) < (0 : Int)) then
        (some (-1))
      else
        ((gi x0 y3).bind fun u20 =>
        (Vm.laws_heldStringS u20.One z15).bind fun z26 =>
        bif decide ((z26 : Int) < (0 : Int)) then
          (some (-1))
        else
          ((gi x0 y3).bind fun u31 =>
          (Vm.laws_heldStringS u31.Two z26).bind fun z37 =>
          bif decide ((z37 : Int) < (0 : Int)) then
            (some (-1))
          else
            ((gi x0 y3).bind fun u42 =>
            (Vm.laws_heldStringS u42.Done z37).bind fun z48 =>
            bif decide ((z48 : Int) < (0 : Int)) then
              (some (-1))
            else
              (laws_heldMemoS_l1 x0 K5 m z48 y2 (w64 (y3 + 1)))))))
    else
      (K5 y1 y2 y3)

def laws_heldMemoS (x0 : List Vm.Memo) (x1 : Int) : Option (Int) :=
  jn (fun (y1 : Int) (y2 : Int) (y3 : Int) =>
    some y1) fun K5 =>
  laws_heldMemoS_l1 x0 K5 (((x0.length : Int) - 0).toNat + 1) x1 0 0

def laws_FnExactMemoPut (x0 : List Vm.Memo) (x1 : Vm.Memo) : Option (Bool) :=
  (Vm.laws_szMemoS x0 1048576).bind fun z4 =>
  bif decide ((z4 : Int) < (0 : Int)) then
    (some true)
  else
    ((Vm.laws_szMemo x1 z4).bind fun z14 =>
    bif decide ((z14 : Int) < (0 : Int)) then
      (some true)
    else
      ((Vm.laws_toMemoS x0).bind fun z24 =>
      (Vm.laws_toMemo x1).bind fun z33 =>
      (Vm.spec_MemoPut z24 (Vm.Memo.mk z33.Old z33.One z33.Two z33.Done)).bind fun z39 =>
      (Vm.laws_toMemoS x0).bind fun z50 =>
      (Vm.laws_toMemo x1).bind fun z65 =>
      (Vm.impl_MemoPut z50 (Vm.Memo.mk z65.Old z65.One z65.Two z65.Done)).bind fun z105 =>
      jn (fun (y122 : Bool) =>
        bif y122 then
          (some false)
        else
          ((Vm.laws_toMemoS x0).bind fun z142 =>
          (Vm.laws_eqMemoS z50 z142).bind fun z160 =>
          bif (!z160) then
            (some false)
          else
            ((Vm.laws_toMemo x1).bind fun z201 =>
            (Vm.laws_eqMemo (Vm.Memo.mk z65.Old z65.One z65.Two z65.Done) (Vm.Memo.mk z201.Old z201.One z201.Two z201.Done)).bind fun z220 =>
            bif (!z220) then
              (some false)
            else
              ((Vm.laws_markMemoS z50 1).bind fun z244 =>
              (Vm.laws_markMemo (Vm.Memo.mk z65.Old z65.One z65.Two z65.Done) z244.1).bind fun z266 =>
              jn (fun (y285 : Bool) =>
                bif y285 then
                  (some false)
                else
                  ((Vm.laws_markMemoS z105.1 1).bind fun z309 =>
                  (Vm.laws_heldMemoS z309.2 1).bind fun z331 =>
                  bif decide ((z331 : Int) < (0 : Int)) then
                    (some false)
                  else
                    (bif ((z331 : Int) != (z309.1 : Int)) then
                      (some false)
                    else
                      ((Vm.laws_toMemoS x0).bind fun z378 =>
                      (Vm.laws_toMemo x1).bind fun z405 =>
                      (Vm.impl_MemoPut z378 (Vm.Memo.mk z405.Old z405.One z405.Two z405.Done)).bind fun z429 =>
                      jn (fun (y457 : Bool) =>
                        bif y457 then
                          (some false)
                        else
                          ((Vm.laws_heldMemoS z309.2 1).bind fun z487 =>
                          bif decide ((z487 : Int) < (0 : Int)) then
                            (some false)
                          else
                            (bif ((z487 : Int) != (z309.1 : Int)) then
                              (some false)
                            else
                              (some true)))) fun K459 =>
                      (Vm.laws_eqMemoS z429.1 z39.1).bind fun z518 =>
                      bif (!z518) then
                        (K459 true)
                      else
                        (K459 (z429.2 != z39.2)))))) fun K287 =>
              bif decide ((z266.1 : Int) < (0 : Int)) then
                (K287 true)
              else
                ((Vm.laws_eqMemoS z105.1 z39.1).bind fun z549 =>
                bif (!z549) then
                  (K287 true)
                else
                  (K287 (z105.2 != z39.2))))))) fun K124 =>
      (Vm.laws_eqMemoS z105.1 z39.1).bind fun z573 =>
      bif (!z573) then
        (K124 true)
      else
        (K124 (z105.2 != z39.2))))

end Go.Vm
