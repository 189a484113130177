/- Models of the functions: plain Lean, printed by a program of ours. Conditions: none. -/
import Derived.Test.YtjdljoplpcakpaaXTy
namespace Go.Vm
open Go Go.Sx
set_option linter.unusedVariables false
set_option linter.unusedSimpArgs false

def laws_szStringS_l1 (x0 : List Str) (K6 : Int → Int → Int → Option (Int)) : Nat → Int → Int → Int → Option (Int)
  | 0, _, _, _ => none
  | m + 1, y2, y3, y4 =>
    bif decide ((y4 : Int) < ((x0.length : Int) : Int)) then
      ((gi x0 y4).bind fun u11 =>
      bif decide ((w64 (y2 - (u11.length : Int)) : Int) < (0 : Int)) then
        (some (-1))
      else
        (laws_szStringS_l1 x0 K6 m (w64 (y2 - (u11.length : Int))) y3 (w64 (y4 + 1))))
    else
      (K6 y2 y3 y4)

def laws_szStringS (x0 : List Str) (x1 : Int) : Option (Int) :=
  bif decide ((w64 (x1 - (x0.length : Int)) : Int) < (0 : Int)) then
    (some (-1))
  else
    (jn (fun (y2 : Int) (y3 : Int) (y4 : Int) =>
      some y2) fun K6 =>
    laws_szStringS_l1 x0 K6 (((x0.length : Int) - 0).toNat + 1) (w64 (x1 - (x0.length : Int))) 0 0)

def laws_szMemo (x0 : Vm.Memo) (x1 : Int) : Option (Int) :=
  (Vm.laws_szStringS x0.Old x1).bind fun z4 =>
  bif decide ((z4 : Int) < (0 : Int)) then
    (some (-1))
  else
    ((Vm.laws_szStringS x0.One z4).bind fun z11 =>
    bif decide ((z11 : Int) < (0 : Int)) then
      (some (-1))
    else
      ((Vm.laws_szStringS x0.Two z11).bind fun z18 =>
      bif decide ((z18 : Int) < (0 : Int)) then
        (some (-1))
      else
        ((Vm.laws_szStringS x0.Done z18).bind fun z25 =>
        bif decide ((z25 : Int) < (0 : Int)) then
          (some (-1))
        else
          (some z25))))

def laws_szMemoS_l1 (x0 : List Vm.Memo) (K6 : Int → Int → Int → Option (Int)) : Nat → Int → Int → Int → Option (Int)
  | 0, _, _, _ => none
  | m + 1, y2, y3, y4 =>
    bif decide ((y4 : Int) < ((x0.length : Int) : Int)) then
      ((gi x0 y4).bind fun u11 =>
      (Vm.laws_szMemo u11 y2).bind fun z24 =>
      bif decide ((z24 : Int) < (0 : Int)) then
        (some (-1))
      else
        (laws_szMemoS_l1 x0 K6 m z24 y3 (w64 (y4 + 1))))
    else
      (K6 y2 y3 y4)

def laws_szMemoS (x0 : List Vm.Memo) (x1 : Int) : Option (Int) :=
  bif decide ((w64 (x1 - (x0.length : Int)) : Int) < (0 : Int)) then
    (some (-1))
  else
    (jn (fun (y2 : Int) (y3 : Int) (y4 : Int) =>
      some y2) fun K6 =>
    laws_szMemoS_l1 x0 K6 (((x0.length : Int) - 0).toNat + 1) (w64 (x1 - (x0.length : Int))) 0 0)

def laws_toStringS_l1 (x0 : List Str) (K9 : Int → List Str → Option ((List Str))) : Nat → Int → List Str → Option ((List Str))
  | 0, _, _ => none
  | m + 1, y5, y6 =>
    bif decide ((y5 : Int) < ((x0.length : Int) : Int)) then
      ((gi x0 y5).bind fun u14 =>
      (gi y6 y5).bind fun u16 =>
      (siM y6 y5 u14).bind fun q19 =>
      laws_toStringS_l1 x0 K9 m (w64 (y5 + 1)) q19)
    else
      (K9 y5 y6)

def laws_toStringS (x0 : List Str) : Option ((List Str)) :=
  (mkM (x0.length : Int) (([] : Str) : Str)).bind fun q1 =>
  jn (fun (y5 : Int) (y6 : List Str) =>
    some y6) fun K9 =>
  laws_toStringS_l1 x0 K9 (((x0.length : Int) - 0).toNat + 1) 0 q1

def laws_toMemo (x0 : Vm.Memo) : Option (Vm.Memo) :=
  (Vm.laws_toStringS x0.Old).bind fun z11 =>
  (Vm.laws_toStringS x0.One).bind fun z24 =>
  (Vm.laws_toStringS x0.Two).bind fun z39 =>
  (Vm.laws_toStringS x0.Done).bind fun z56 =>
  some (Vm.Memo.mk z11 z24 z39 z56)

def laws_toMemoS_l1 (x0 : List Vm.Memo) (K9 : Int → List Vm.Memo → Option ((List Vm.Memo))) : Nat → Int → List Vm.Memo → Option ((List Vm.Memo))
  | 0, _, _ => none
  | m + 1, y5, y6 =>
    bif decide ((y5 : Int) < ((x0.length : Int) : Int)) then
      ((gi x0 y5).bind fun u14 =>
      (Vm.laws_toMemo u14).bind fun z27 =>
      (gi y6 y5).bind fun u32 =>
      (siM y6 y5 (Vm.Memo.mk z27.Old z27.One z27.Two z27.Done)).bind fun q35 =>
      laws_toMemoS_l1 x0 K9 m (w64 (y5 + 1)) q35)
    else
      (K9 y5 y6)

def laws_toMemoS (x0 : List Vm.Memo) : Option ((List Vm.Memo)) :=
  (mkM (x0.length : Int) (Vm.Memo.mk ([] : List Str) ([] : List Str) ([] : List Str) ([] : List Str) : Memo)).bind fun q1 =>
  jn (fun (y5 : Int) (y6 : List Vm.Memo) =>
    some y6) fun K9 =>
  laws_toMemoS_l1 x0 K9 (((x0.length : Int) - 0).toNat + 1) 0 q1

def spec_l1Line_l1 (x0 : Str) (K4 : Bool → Int → Option (Bool)) : Nat → Bool → Int → Option (Bool)
  | 0, _, _ => none
  | m + 1, y1, y2 =>
    bif decide ((y2 : Int) < ((x0.length : Int) : Int)) then
      (jn (fun (y8 : Bool) =>
        bif y8 then
          (some false)
        else
          (spec_l1Line_l1 x0 K4 m y1 (w64 (y2 + 1)))) fun K10 =>
      (chM x0 y2).bind fun u13 =>
      bif decide (((UInt8.toNat u13 : Int) : Int) < (32 : Int)) then
        (K10 true)
      else
        ((chM x0 y2).bind fun u16 =>
        K10 (decide ((126 : Int) < ((UInt8.toNat u16 : Int) : Int)))))
    else
      (K4 y1 y2)

def spec_l1Line (x0 : Str) : Option (Bool) :=
  jn (fun (y1 : Bool) (y2 : Int) =>
    some (decide (((x0.length : Int) : Int) ≤ (12 : Int)))) fun K4 =>
  spec_l1Line_l1 x0 K4 (((x0.length : Int) - 0).toNat + 1) false 0

def spec_l1Ok_l1 (x0 : List Str) (K4 : Bool → Int → Option (Bool)) : Nat → Bool → Int → Option (Bool)
  | 0, _, _ => none
  | m + 1, y1, y2 =>
    bif decide ((y2 : Int) < ((x0.length : Int) : Int)) then
      ((gi x0 y2).bind fun u9 =>
      (Vm.spec_l1Line u9).bind fun z11 =>
      bif (!z11) then
        (some false)
      else
        (spec_l1Ok_l1 x0 K4 m y1 (w64 (y2 + 1))))
    else
      (K4 y1 y2)

def spec_l1Ok (x0 : List Str) : Option (Bool) :=
  jn (fun (y1 : Bool) (y2 : Int) =>
    some (decide (((x0.length : Int) : Int) ≤ (10 : Int)))) fun K4 =>
  spec_l1Ok_l1 x0 K4 (((x0.length : Int) - 0).toNat + 1) false 0

def spec_l1Same_l1 (x0 : List Str) (x1 : List Str) (K5 : Bool → Int → Option (Bool)) : Nat → Bool → Int → Option (Bool)
  | 0, _, _ => none
  | m + 1, y2, y3 =>
    bif decide ((y3 : Int) < ((x0.length : Int) : Int)) then
      ((gi x0 y3).bind fun u12 =>
      (gi x1 y3).bind fun u15 =>
      bif (u12 != u15) then
        (some false)
      else
        (spec_l1Same_l1 x0 x1 K5 m y2 (w64 (y3 + 1))))
    else
      (K5 y2 y3)

def spec_l1Same (x0 : List Str) (x1 : List Str) : Option (Bool) :=
  bif (((x0.length : Int) : Int) != ((x1.length : Int) : Int)) then
    (some false)
  else
    (jn (fun (y2 : Bool) (y3 : Int) =>
      some true) fun K5 =>
    spec_l1Same_l1 x0 x1 K5 (((x0.length : Int) - 0).toNat + 1) false 0)

def spec_l18Same (x0 : Vm.Memo) (x1 : List Str) (x2 : List Str) (x3 : List Str) : Option (Bool) :=
  jn (fun (y3 : Bool) =>
    some y3) fun K5 =>
  (Vm.spec_l1Same x0.Old x1).bind fun z10 =>
  bif z10 then
    ((Vm.spec_l1Same x0.One x2).bind fun z18 =>
    bif z18 then
      ((Vm.spec_l1Same x0.Two x3).bind fun z26 =>
      bif z26 then
        (K5 true)
      else
        ((Vm.spec_l1Same x0.One x3).bind fun z34 =>
        bif z34 then
          ((Vm.spec_l1Same x0.Two x2).bind fun z42 =>
          K5 z42)
        else
          (K5 false)))
    else
      ((Vm.spec_l1Same x0.One x3).bind fun z49 =>
      bif z49 then
        ((Vm.spec_l1Same x0.Two x2).bind fun z57 =>
        K5 z57)
      else
        (K5 false)))
  else
    (K5 false)

def spec_l18Ok_l2 (x0 : List Vm.Memo) (y2 : Int) (u11 : Vm.Memo) (K37 : Bool → Int → Option (Bool)) : Nat → Bool → Int → Option (Bool)
  | 0, _, _ => none
  | m + 1, y34, y35 =>
    bif decide ((y35 : Int) < (y2 : Int)) then
      ((gi x0 y35).bind fun u45 =>
      (Vm.spec_l18Same u45 u11.Old u11.One u11.Two).bind fun z62 =>
      bif z62 then
        (some false)
      else
        (spec_l18Ok_l2 x0 y2 u11 K37 m y34 (w64 (y35 + 1))))
    else
      (K37 y34 y35)

def spec_l18Ok_l1 (x0 : List Vm.Memo) (K6 : Bool → Int → Option (Bool)) : Nat → Bool → Int → Option (Bool)
  | 0, _, _ => none
  | m + 1, y1, y2 =>
    bif decide ((y2 : Int) < ((x0.length : Int) : Int)) then
      ((gi x0 y2).bind fun u11 =>
      jn (fun (y28 : Bool) =>
        bif y28 then
          (some false)
        else
          (jn (fun (y34 : Bool) (y35 : Int) =>
            spec_l18Ok_l1 x0 K6 m y34 (w64 (y2 + 1))) fun K37 =>
          spec_l18Ok_l2 x0 y2 u11 K37 ((y2 - 0).toNat + 1) y1 0)) fun K30 =>
      (Vm.spec_l1Ok u11.Old).bind fun z69 =>
      bif (!z69) then
        (K30 true)
      else
        ((Vm.spec_l1Ok u11.One).bind fun z76 =>
        bif (!z76) then
          (K30 true)
        else
          ((Vm.spec_l1Ok u11.Two).bind fun z83 =>
          bif (!z83) then
            (K30 true)
          else
            ((Vm.spec_l1Ok u11.Done).bind fun z90 =>
            bif (!z90) then
              (K30 true)
            else
              ((Vm.spec_l1Same u11.One u11.Two).bind fun z98 =>
              K30 z98)))))
    else
      (K6 y1 y2)

def spec_l18Ok (x0 : List Vm.Memo) : Option (Bool) :=
  jn (fun (y1 : Bool) (y2 : Int) =>
    some (decide (((x0.length : Int) : Int) ≤ (5 : Int)))) fun K6 =>
  spec_l18Ok_l1 x0 K6 (((x0.length : Int) - 0).toNat + 1) false 0

def spec_MemosOk (x0 : List Vm.Memo) : Option (Bool) :=
  (Vm.spec_l18Ok x0).bind fun z1 =>
  some z1

def impl_lineOk_l1 (x0 : Str) (K5 : Bool → Int → Option (Bool)) : Nat → Bool → Int → Option (Bool)
  | 0, _, _ => none
  | m + 1, y2, y3 =>
    bif decide ((y3 : Int) < ((x0.length : Int) : Int)) then
      (jn (fun (y9 : Bool) =>
        bif y9 then
          (some false)
        else
          (impl_lineOk_l1 x0 K5 m y2 (w64 (y3 + 1)))) fun K11 =>
      (chM x0 y3).bind fun u14 =>
      bif decide (((UInt8.toNat u14 : Int) : Int) < (32 : Int)) then
        (K11 true)
      else
        ((chM x0 y3).bind fun u17 =>
        K11 (decide ((126 : Int) < ((UInt8.toNat u17 : Int) : Int)))))
    else
      (K5 y2 y3)

def impl_lineOk (x0 : Str) : Option (Bool) :=
  bif decide ((12 : Int) < ((x0.length : Int) : Int)) then
    (some false)
  else
    (jn (fun (y2 : Bool) (y3 : Int) =>
      some true) fun K5 =>
    impl_lineOk_l1 x0 K5 (((x0.length : Int) - 0).toNat + 1) false 0)

def impl_TextOk_l1 (x0 : List Str) (K6 : Bool → Int → Option (Bool)) : Nat → Bool → Int → Option (Bool)
  | 0, _, _ => none
  | m + 1, y2, y4 =>
    bif decide ((y4 : Int) < ((x0.length : Int) : Int)) then
      ((gi x0 y4).bind fun u10 =>
      (Vm.impl_lineOk u10).bind fun z13 =>
      bif (!z13) then
        (some false)
      else
        (impl_TextOk_l1 x0 K6 m y2 (w64 (y4 + 1))))
    else
      (K6 y2 y4)

def impl_TextOk (x0 : List Str) : Option (Bool) :=
  bif decide ((10 : Int) < ((x0.length : Int) : Int)) then
    (some false)
  else
    (jn (fun (y2 : Bool) (y4 : Int) =>
      some true) fun K6 =>
    impl_TextOk_l1 x0 K6 (((x0.length : Int) - 0).toNat + 1) false 0)

def impl_areTexts (x0 : List Str) (x1 : List Str) (x2 : List Str) : Option (Bool) :=
  jn (fun (y1 : Bool) =>
    some y1) fun K3 =>
  (Vm.impl_TextOk x0).bind fun z5 =>
  bif z5 then
    ((Vm.impl_TextOk x1).bind fun z11 =>
    bif z11 then
      ((Vm.impl_TextOk x2).bind fun z17 =>
      K3 z17)
    else
      (K3 false))
  else
    (K3 false)

def slices_Equal_string_string_l1 (x0 : List Str) (x1 : List Str) (K6 : Bool → Int → Option (Bool)) : Nat → Bool → Int → Option (Bool)
  | 0, _, _ => none
  | m + 1, y2, y4 =>
    bif decide ((y4 : Int) < ((x0.length : Int) : Int)) then
      ((gi x0 y4).bind fun u12 =>
      (gi x1 y4).bind fun u15 =>
      bif (u12 != u15) then
        (some false)
      else
        (slices_Equal_string_string_l1 x0 x1 K6 m y2 (w64 (y4 + 1))))
    else
      (K6 y2 y4)

def slices_Equal_string_string (x0 : List Str) (x1 : List Str) : Option (Bool) :=
  bif (((x0.length : Int) : Int) != ((x1.length : Int) : Int)) then
    (some false)
  else
    (jn (fun (y2 : Bool) (y4 : Int) =>
      some true) fun K6 =>
    slices_Equal_string_string_l1 x0 x1 K6 (((x0.length : Int) - 0).toNat + 1) false 0)

def impl_Memo_is (x0 : Vm.Memo) (x1 : List Str) (x2 : List Str) (x3 : List Str) : Option (Bool) :=
  (Vm.slices_Equal_string_string x0.Old x1).bind fun z5 =>
  bif (!z5) then
    (some false)
  else
    (jn (fun (y11 : Bool) =>
      some y11) fun K13 =>
    (Vm.slices_Equal_string_string x0.One x2).bind fun z18 =>
    bif z18 then
      ((Vm.slices_Equal_string_string x0.Two x3).bind fun z26 =>
      bif z26 then
        (K13 true)
      else
        ((Vm.slices_Equal_string_string x0.One x3).bind fun z34 =>
        bif z34 then
          ((Vm.slices_Equal_string_string x0.Two x2).bind fun z42 =>
          K13 z42)
        else
          (K13 false)))
    else
      ((Vm.slices_Equal_string_string x0.One x3).bind fun z49 =>
      bif z49 then
        ((Vm.slices_Equal_string_string x0.Two x2).bind fun z57 =>
        K13 z57)
      else
        (K13 false)))

def impl_MemosOk_l2 (u12 : Vm.Memo) (q36 : List Vm.Memo) (K45 : Bool → Int → Option (Bool)) : Nat → Bool → Int → Option (Bool)
  | 0, _, _ => none
  | m + 1, y41, y43 =>
    bif decide ((y43 : Int) < ((q36.length : Int) : Int)) then
      ((gi q36 y43).bind fun u50 =>
      (Vm.impl_Memo_is u50 u12.Old u12.One u12.Two).bind fun z77 =>
      bif z77 then
        (some false)
      else
        (impl_MemosOk_l2 u12 q36 K45 m y41 (w64 (y43 + 1))))
    else
      (K45 y41 y43)

def impl_MemosOk_l1 (x0 : List Vm.Memo) (K8 : Bool → Int → Option (Bool)) : Nat → Bool → Int → Option (Bool)
  | 0, _, _ => none
  | m + 1, y2, y6 =>
    bif decide ((y6 : Int) < ((x0.length : Int) : Int)) then
      ((gi x0 y6).bind fun u12 =>
      jn (fun (y30 : Bool) =>
        bif y30 then
          (some false)
        else
          ((slM x0 0 y6).bind fun q36 =>
          jn (fun (y41 : Bool) (y43 : Int) =>
            impl_MemosOk_l1 x0 K8 m y41 (w64 (y6 + 1))) fun K45 =>
          impl_MemosOk_l2 u12 q36 K45 (((q36.length : Int) - 0).toNat + 1) y2 0)) fun K32 =>
      (Vm.impl_areTexts u12.Old u12.One u12.Two).bind fun z87 =>
      bif (!z87) then
        (K32 true)
      else
        ((Vm.impl_TextOk u12.Done).bind fun z94 =>
        bif (!z94) then
          (K32 true)
        else
          ((Vm.slices_Equal_string_string u12.One u12.Two).bind fun z102 =>
          K32 z102)))
    else
      (K8 y2 y6)

def impl_MemosOk (x0 : List Vm.Memo) : Option (Bool) :=
  bif decide ((5 : Int) < ((x0.length : Int) : Int)) then
    (some false)
  else
    (jn (fun (y2 : Bool) (y6 : Int) =>
      some true) fun K8 =>
    impl_MemosOk_l1 x0 K8 (((x0.length : Int) - 0).toNat + 1) false 0)

def laws_eqStringS_l1 (x0 : List Str) (x1 : List Str) (K5 : Bool → Int → Option (Bool)) : Nat → Bool → Int → Option (Bool)
  | 0, _, _ => none
  | m + 1, y2, y3 =>
    bif decide ((y3 : Int) < ((x0.length : Int) : Int)) then
      ((gi x0 y3).bind fun u12 =>
      (gi x1 y3).bind fun u15 =>
      bif (u12 != u15) then
        (some false)
      else
        (laws_eqStringS_l1 x0 x1 K5 m y2 (w64 (y3 + 1))))
    else
      (K5 y2 y3)

def laws_eqStringS (x0 : List Str) (x1 : List Str) : Option (Bool) :=
  bif (((x0.length : Int) : Int) != ((x1.length : Int) : Int)) then
    (some false)
  else
    (jn (fun (y2 : Bool) (y3 : Int) =>
      some true) fun K5 =>
    laws_eqStringS_l1 x0 x1 K5 (((x0.length : Int) - 0).toNat + 1) false 0)

def laws_eqMemo (x0 : Vm.Memo) (x1 : Vm.Memo) : Option (Bool) :=
  (Vm.laws_eqStringS x0.Old x1.Old).bind fun z8 =>
  bif (!z8) then
    (some false)
  else
    ((Vm.laws_eqStringS x0.One x1.One).bind fun z17 =>
    bif (!z17) then
      (some false)
    else
      ((Vm.laws_eqStringS x0.Two x1.Two).bind fun z26 =>
      bif (!z26) then
        (some false)
      else
        ((Vm.laws_eqStringS x0.Done x1.Done).bind fun z35 =>
        bif (!z35) then
          (some false)
        else
          (some true))))

def laws_eqMemoS_l1 (x0 : List Vm.Memo) (x1 : List Vm.Memo) (K5 : Bool → Int → Option (Bool)) : Nat → Bool → Int → Option (Bool)
  | 0, _, _ => none
  | m + 1, y2, y3 =>
    bif decide ((y3 : Int) < ((x0.length : Int) : Int)) then
      ((gi x0 y3).bind fun u12 =>
      (gi x1 y3).bind fun u26 =>
      (Vm.laws_eqMemo u12 u26).bind fun z40 =>
      bif (!z40) then
        (some false)
      else
        (laws_eqMemoS_l1 x0 x1 K5 m y2 (w64 (y3 + 1))))
    else
      (K5 y2 y3)

def laws_eqMemoS (x0 : List Vm.Memo) (x1 : List Vm.Memo) : Option (Bool) :=
  bif (((x0.length : Int) : Int) != ((x1.length : Int) : Int)) then
    (some false)
  else
    (jn (fun (y2 : Bool) (y3 : Int) =>
      some true) fun K5 =>
    laws_eqMemoS_l1 x0 x1 K5 (((x0.length : Int) - 0).toNat + 1) false 0)

def laws_FnExactMemosOk (x0 : List Vm.Memo) : Option (Bool) :=
  (Vm.laws_szMemoS x0 1048576).bind fun z1 =>
  bif decide ((z1 : Int) < (0 : Int)) then
    (some true)
  else
    ((Vm.laws_toMemoS x0).bind fun z7 =>
    (Vm.spec_MemosOk z7).bind fun z11 =>
    (Vm.laws_toMemoS x0).bind fun z17 =>
    (Vm.impl_MemosOk z17).bind fun z22 =>
    bif (z22 != z11) then
      (some false)
    else
      ((Vm.laws_toMemoS x0).bind fun z30 =>
      (Vm.laws_eqMemoS z17 z30).bind fun z36 =>
      bif (!z36) then
        (some false)
      else
        (some true)))

def spec_l30Open (x0 : List Byte) : Option (Vm.l30Rd) :=
  jn (fun (y1 : List Byte) =>
    some (Vm.l30Rd.mk y1 0)) fun K5 =>
  bif decide ((2000 : Int) < ((x0.length : Int) : Int)) then
    ((slM x0 0 2000).bind fun q13 =>
    K5 q13)
  else
    (K5 x0)

def spec_l30Rd_pick (x0 : Vm.l30Rd) (x1 : Int) : Option (Int × Int) :=
  jn (fun (y3 : Bool) =>
    bif y3 then
      (some (0, w64 (x0.p + 1)))
    else
      (bif decide ((w64 ((w64 (x0.p + 1)) - 1) : Int) < ((x0.b.length : Int) : Int)) then
        ((gi x0.b (w64 ((w64 (x0.p + 1)) - 1))).bind fun u11 =>
        (if (x1 : Int) = 0 then none else some ()).bind fun _ =>
        some (Int.tmod (w64 (UInt8.toNat u11 : Int)) x1, w64 (x0.p + 1)))
      else
        ((if ((x0.b.length : Int) : Int) = 0 then none else some ()).bind fun _ =>
        (gi x0.b (Int.tmod (w64 ((w64 (x0.p + 1)) - 1)) (x0.b.length : Int))).bind fun u19 =>
        (if ((x0.b.length : Int) : Int) = 0 then none else some ()).bind fun _ =>
        (gi x0.b (Int.tmod (w64 ((w64 ((w64 ((w64 (x0.p + 1)) - 1)) * 7)) + 3)) (x0.b.length : Int))).bind fun u22 =>
        (if ((x0.b.length : Int) : Int) = 0 then none else some ()).bind fun _ =>
        (if (x1 : Int) = 0 then none else some ()).bind fun _ =>
        some (Int.tmod (xor64 (w64 ((w64 ((w64 ((w64 ((w64 (UInt8.toNat u19 : Int)) * 131)) + (w64 ((w64 (UInt8.toNat u22 : Int)) * 1117)))) + (w64 ((w64 ((w64 (x0.p + 1)) - 1)) * 29)))) + (w64 ((w64 (Int.tdiv (w64 ((w64 (x0.p + 1)) - 1)) (x0.b.length : Int))) * 53)))) (w64 (Int.tdiv (w64 ((w64 ((w64 ((w64 ((w64 (UInt8.toNat u19 : Int)) * 131)) + (w64 ((w64 (UInt8.toNat u22 : Int)) * 1117)))) + (w64 ((w64 ((w64 (x0.p + 1)) - 1)) * 29)))) + (w64 ((w64 (Int.tdiv (w64 ((w64 (x0.p + 1)) - 1)) (x0.b.length : Int))) * 53)))) 64))) x1, w64 (x0.p + 1))))) fun K5 =>
  bif decide ((x1 : Int) < (1 : Int)) then
    (K5 true)
  else
    (K5 (((x0.b.length : Int) : Int) == (0 : Int)))

def spec_l30Short (x0 : Vm.l30Rd) : Option ((List Str) × Int) :=
  (Vm.spec_l30Rd_pick x0 4).bind fun z17 =>
  (gi ([([] : List Str), ([([97] : Str)] : List Str), ([([98] : Str)] : List Str), ([([99] : Str), ([100] : Str)] : List Str)] : List (List Str)) z17.1).bind fun u22 =>
  some (u22, z17.2)

def spec_l30Memo (x0 : Vm.l30Rd) : Option (Vm.Memo × Int) :=
  (Vm.spec_l30Short x0).bind fun z5 =>
  (Vm.spec_l30Short (Vm.l30Rd.mk x0.b z5.2)).bind fun z11 =>
  (Vm.spec_l30Short (Vm.l30Rd.mk x0.b z11.2)).bind fun z18 =>
  (Vm.spec_l30Short (Vm.l30Rd.mk x0.b z18.2)).bind fun z26 =>
  some (Vm.Memo.mk z5.1 z11.1 z18.1 z26.1, z26.2)

def spec_l18Copy (x0 : Vm.Memo) : Option (Vm.Memo) :=
  (apM ([] : List Str) x0.Old).bind fun q14 =>
  (apM ([] : List Str) x0.One).bind fun q26 =>
  (apM ([] : List Str) x0.Two).bind fun q40 =>
  (apM ([] : List Str) x0.Done).bind fun q56 =>
  some (Vm.Memo.mk q14 q26 q40 q56)

def spec_l18All_l1 (x0 : List Vm.Memo) (K8 : List Vm.Memo → Int → Option ((List Vm.Memo))) : Nat → List Vm.Memo → Int → Option ((List Vm.Memo))
  | 0, _, _ => none
  | m + 1, y3, y6 =>
    bif decide ((y6 : Int) < ((x0.length : Int) : Int)) then
      ((gi x0 y6).bind fun u13 =>
      (Vm.spec_l18Copy u13).bind fun z26 =>
      (apM y3 [Vm.Memo.mk z26.Old z26.One z26.Two z26.Done]).bind fun q38 =>
      spec_l18All_l1 x0 K8 m q38 (w64 (y6 + 1)))
    else
      (K8 y3 y6)

def spec_l18All (x0 : List Vm.Memo) : Option ((List Vm.Memo)) :=
  jn (fun (y3 : List Vm.Memo) (y6 : Int) =>
    some y3) fun K8 =>
  spec_l18All_l1 x0 K8 (((x0.length : Int) - 0).toNat + 1) ([] : List Memo) 0

def spec_MemoPut_l1 (x0 : List Vm.Memo) (x1 : Vm.Memo) (K18 : List Vm.Memo → Int → Option ((List Vm.Memo) × Bool)) : Nat → List Vm.Memo → Int → Option ((List Vm.Memo) × Bool)
  | 0, _, _ => none
  | m + 1, y13, y16 =>
    bif decide ((y16 : Int) < ((x0.length : Int) : Int)) then
      (jn (fun (y24 : List Vm.Memo) =>
        spec_MemoPut_l1 x0 x1 K18 m y24 (w64 (y16 + 1))) fun K28 =>
      (gi x0 y16).bind fun u35 =>
      (Vm.spec_l18Same u35 x1.Old x1.One x1.Two).bind fun z52 =>
      bif (!z52) then
        ((gi x0 y16).bind fun u59 =>
        (Vm.spec_l18Copy u59).bind fun z73 =>
        (apM y13 [Vm.Memo.mk z73.Old z73.One z73.Two z73.Done]).bind fun q87 =>
        K28 q87)
      else
        (K28 y13))
    else
      (K18 y13 y16)

def spec_MemoPut (x0 : List Vm.Memo) (x1 : Vm.Memo) : Option ((List Vm.Memo) × Bool) :=
  (Vm.spec_l18Ok x0).bind fun z4 =>
  bif (!z4) then
    (some (([] : List Memo), false))
  else
    (jn (fun (y13 : List Vm.Memo) (y16 : Int) =>
      (Vm.spec_l18Copy x1).bind fun z97 =>
      (apM y13 [Vm.Memo.mk z97.Old z97.One z97.Two z97.Done]).bind fun q111 =>
      (Vm.spec_l18Ok q111).bind fun z117 =>
      bif (!z117) then
        ((Vm.spec_l18All x0).bind fun z126 =>
        some (z126, false))
      else
        (some (q111, true))) fun K18 =>
    spec_MemoPut_l1 x0 x1 K18 (((x0.length : Int) - 0).toNat + 1) ([] : List Memo) 0)

def spec_l30Memos_l1 (x0 : Vm.l30Rd) (K19 : List Vm.Memo → Int → Int → Option ((List Vm.Memo) × Int)) : Nat → List Vm.Memo → Int → Int → Option ((List Vm.Memo) × Int)
  | 0, _, _, _ => none
  | m + 1, y10, y13, y16 =>
    bif decide ((0 : Int) < (y13 : Int)) then
      (jn (fun (y23 : List Vm.Memo) (y28 : Int) =>
        spec_l30Memos_l1 x0 K19 m y23 (w64 (y13 - 1)) y28) fun K31 =>
      (Vm.spec_l30Memo (Vm.l30Rd.mk x0.b y16)).bind fun z34 =>
      (Vm.spec_MemoPut y10 (Vm.Memo.mk z34.1.Old z34.1.One z34.1.Two z34.1.Done)).bind fun z39 =>
      bif z39.2 then
        (K31 z39.1 z34.2)
      else
        (K31 y10 z34.2))
    else
      (K19 y10 y13 y16)

def spec_l30Memos (x0 : Vm.l30Rd) : Option ((List Vm.Memo) × Int) :=
  (Vm.spec_l30Rd_pick x0 5).bind fun z5 =>
  jn (fun (y10 : List Vm.Memo) (y13 : Int) (y16 : Int) =>
    (Vm.spec_l30Rd_pick (Vm.l30Rd.mk x0.b y16) 14).bind fun z58 =>
    bif ((z58.1 : Int) == (0 : Int)) then
      ((Vm.spec_l30Memo (Vm.l30Rd.mk x0.b z58.2)).bind fun z65 =>
      (apM y10 [Vm.Memo.mk z65.1.Old z65.1.One z65.1.Two z65.1.Done]).bind fun q78 =>
      some (q78, z65.2))
    else
      (some (y10, z58.2))) fun K19 =>
  spec_l30Memos_l1 x0 K19 ((z5.1 - 0).toNat + 1) ([] : List Memo) z5.1 z5.2

def spec_DrawMemoPut (x0 : List Byte) : Option ((List Vm.Memo) × Vm.Memo) :=
  (Vm.spec_l30Open x0).bind fun z4 =>
  (Vm.spec_l30Memos z4).bind fun z10 =>
  (Vm.spec_l30Memo (Vm.l30Rd.mk z4.b z10.2)).bind fun z16 =>
  some (z10.1, Vm.Memo.mk z16.1.Old z16.1.One z16.1.Two z16.1.Done)

def impl_copyText (x0 : List Str) : Option ((List Str)) :=
  (apM ([] : List Str) x0).bind fun q3 =>
  some q3

def impl_Memo_own (x0 : Vm.Memo) : Option (Vm.Memo) :=
  (Vm.impl_copyText x0.Old).bind fun z11 =>
  (Vm.impl_copyText x0.One).bind fun z18 =>
  (Vm.impl_copyText x0.Two).bind fun z26 =>
  (Vm.impl_copyText x0.Done).bind fun z35 =>
  some (Vm.Memo.mk z11 z18 z26 z35)

def impl_ownMemos_l1 (x0 : List Vm.Memo) (K7 : List Vm.Memo → Int → Option ((List Vm.Memo))) : Nat → List Vm.Memo → Int → Option ((List Vm.Memo))
  | 0, _, _ => none
  | m + 1, y1, y5 =>
    bif decide ((y5 : Int) < ((x0.length : Int) : Int)) then
      ((gi x0 y5).bind fun u11 =>
      (Vm.impl_Memo_own u11).bind fun z35 =>
      (apM y1 [Vm.Memo.mk z35.Old z35.One z35.Two z35.Done]).bind fun q49 =>
      impl_ownMemos_l1 x0 K7 m q49 (w64 (y5 + 1)))
    else
      (K7 y1 y5)

def impl_ownMemos (x0 : List Vm.Memo) : Option ((List Vm.Memo)) :=
  jn (fun (y1 : List Vm.Memo) (y5 : Int) =>
    some y1) fun K7 =>
  impl_ownMemos_l1 x0 K7 (((x0.length : Int) - 0).toNat + 1) ([] : List Memo) 0

def impl_MemoPut_l1 (x0 : List Vm.Memo) (x1 : Vm.Memo) (K17 : List Vm.Memo → Int → Option ((List Vm.Memo) × Bool)) : Nat → List Vm.Memo → Int → Option ((List Vm.Memo) × Bool)
  | 0, _, _ => none
  | m + 1, y11, y15 =>
    bif decide ((y15 : Int) < ((x0.length : Int) : Int)) then
      (jn (fun (y22 : List Vm.Memo) =>
        impl_MemoPut_l1 x0 x1 K17 m y22 (w64 (y15 + 1))) fun K27 =>
      (gi x0 y15).bind fun u30 =>
      (Vm.impl_Memo_is u30 x1.Old x1.One x1.Two).bind fun z59 =>
      bif (!z59) then
        ((Vm.impl_Memo_own u30).bind fun z71 =>
        (apM y11 [Vm.Memo.mk z71.Old z71.One z71.Two z71.Done]).bind fun q87 =>
        K27 q87)
      else
        (K27 y11))
    else
      (K17 y11 y15)

def impl_MemoPut (x0 : List Vm.Memo) (x1 : Vm.Memo) : Option ((List Vm.Memo) × Bool) :=
  (Vm.impl_MemosOk x0).bind fun z4 =>
  bif (!z4) then
    (some (([] : List Memo), false))
  else
    (jn (fun (y11 : List Vm.Memo) (y15 : Int) =>
      (Vm.impl_Memo_own x1).bind fun z98 =>
      (apM y11 [Vm.Memo.mk z98.Old z98.One z98.Two z98.Done]).bind fun q112 =>
      (Vm.impl_MemosOk q112).bind fun z118 =>
      bif (!z118) then
        ((Vm.impl_ownMemos x0).bind fun z127 =>
        some (z127, false))
      else
        (some (q112, true))) fun K17 =>
    impl_MemoPut_l1 x0 x1 K17 (((x0.length : Int) - 0).toNat + 1) ([] : List Memo) 0)

def laws_smTexts_l1 (x0 : List Str) (x1 : List Str) (K5 : Bool → Int → Option (Bool)) : Nat → Bool → Int → Option (Bool)
  | 0, _, _ => none
  | m + 1, y2, y3 =>
    bif decide ((y3 : Int) < ((x0.length : Int) : Int)) then
      ((gi x0 y3).bind fun u12 =>
      (gi x1 y3).bind fun u15 =>
      bif (u12 != u15) then
        (some false)
      else
        (laws_smTexts_l1 x0 x1 K5 m y2 (w64 (y3 + 1))))
    else
      (K5 y2 y3)

def laws_smTexts (x0 : List Str) (x1 : List Str) : Option (Bool) :=
  bif (((x0.length : Int) : Int) != ((x1.length : Int) : Int)) then
    (some false)
  else
    (jn (fun (y2 : Bool) (y3 : Int) =>
      some true) fun K5 =>
    laws_smTexts_l1 x0 x1 K5 (((x0.length : Int) - 0).toNat + 1) false 0)

def laws_smMemos_l1 (x0 : List Vm.Memo) (x1 : List Vm.Memo) (K5 : Bool → Int → Option (Bool)) : Nat → Bool → Int → Option (Bool)
  | 0, _, _ => none
  | m + 1, y2, y3 =>
    bif decide ((y3 : Int) < ((x0.length : Int) : Int)) then
      (jn (fun (y10 : Bool) =>
        bif y10 then
          (some false)
        else
          (laws_smMemos_l1 x0 x1 K5 m y2 (w64 (y3 + 1)))) fun K12 =>
      (gi x0 y3).bind fun u17 =>
      (gi x1 y3).bind fun u23 =>
      (Vm.laws_smTexts u17.Old u23.Old).bind fun z29 =>
      bif (!z29) then
        (K12 true)
      else
        ((gi x0 y3).bind fun u34 =>
        (gi x1 y3).bind fun u39 =>
        (Vm.laws_smTexts u34.One u39.One).bind fun z46 =>
        bif (!z46) then
          (K12 true)
        else
          ((gi x0 y3).bind fun u51 =>
          (gi x1 y3).bind fun u56 =>
          (Vm.laws_smTexts u51.Two u56.Two).bind fun z63 =>
          bif (!z63) then
            (K12 true)
          else
            ((gi x0 y3).bind fun u68 =>
            (gi x1 y3).bind fun u73 =>
            (Vm.laws_smTexts u68.Done u73.Done).bind fun z80 =>
            K12 (!z80)))))
    else
      (K5 y2 y3)

def laws_smMemos (x0 : List Vm.Memo) (x1 : List Vm.Memo) : Option (Bool) :=
  bif (((x0.length : Int) : Int) != ((x1.length : Int) : Int)) then
    (some false)
  else
    (jn (fun (y2 : Bool) (y3 : Int) =>
      some true) fun K5 =>
    laws_smMemos_l1 x0 x1 K5 (((x0.length : Int) - 0).toNat + 1) false 0)

def laws_FnMemoPut (x0 : List Byte) : Option (Bool) :=
  bif decide ((1048576 : Int) < ((x0.length : Int) : Int)) then
    (some true)
  else
    ((Vm.spec_DrawMemoPut x0).bind fun z2 =>
    (Vm.impl_MemoPut z2.1 (Vm.Memo.mk z2.2.Old z2.2.One z2.2.Two z2.2.Done)).bind fun z20 =>
    (Vm.spec_MemoPut z2.1 (Vm.Memo.mk z2.2.Old z2.2.One z2.2.Two z2.2.Done)).bind fun z30 =>
    jn (fun (y41 : Bool) =>
      bif y41 then
        (jn (fun (y54 : Bool) =>
          some y54) fun K56 =>
        bif (z20.2 == z30.2) then
          ((Vm.laws_smMemos z20.1 z30.1).bind fun z67 =>
          bif z67 then
            ((Vm.impl_MemosOk z2.1).bind fun z80 =>
            (Vm.spec_MemosOk z2.1).bind fun z92 =>
            K56 (z80 == z92))
          else
            (K56 false))
        else
          (K56 false))
      else
        (bif (!z20.2) then
          ((Vm.laws_smMemos z20.1 z2.1).bind fun z105 =>
          some z105)
        else
          ((Vm.impl_MemoPut z20.1 (Vm.Memo.mk z2.2.Old z2.2.One z2.2.Two z2.2.Done)).bind fun z117 =>
          (Vm.impl_MemoPut z20.1 (Vm.Memo.mk z2.2.Old z2.2.Two z2.2.One z2.2.Done)).bind fun z151 =>
          jn (fun (y165 : Bool) =>
            some y165) fun K167 =>
          (Vm.impl_MemosOk z20.1).bind fun z180 =>
          bif z180 then
            (bif z117.2 then
              ((Vm.laws_smMemos z117.1 z20.1).bind fun z197 =>
              bif z197 then
                (bif z151.2 then
                  (K167 (((z151.1.length : Int) : Int) == ((z20.1.length : Int) : Int)))
                else
                  (K167 false))
              else
                (K167 false))
            else
              (K167 false))
          else
            (K167 false)))) fun K43 =>
    bif (z20.2 != z30.2) then
      (K43 true)
    else
      ((Vm.laws_smMemos z20.1 z30.1).bind fun z215 =>
      bif (!z215) then
        (K43 true)
      else
        ((Vm.impl_MemosOk z2.1).bind fun z228 =>
        (Vm.spec_MemosOk z2.1).bind fun z240 =>
        bif (z228 != z240) then
          (K43 true)
        else
          ((Vm.impl_MemosOk z2.1).bind fun z253 =>
          K43 (!z253)))))

def laws_markText_l1  (K5 : Int → Str → Option (Str)) : Nat → Int → Str → Option (Str)
  | 0, _, _ => none
  | m + 1, y2, y3 =>
    bif decide ((0 : Int) < (y2 : Int)) then
      ((saM (([(by8 (w64 (48 + (Int.tmod y2 10))))] : List Byte) : Str) y3).bind fun q11 =>
      laws_markText_l1 K5 m (w64 (Int.tdiv y2 10)) q11)
    else
      (K5 y2 y3)

def laws_markText (x0 : Int) : Option (Str) :=
  bif decide ((x0 : Int) ≤ (0 : Int)) then
    (some ([109, 48] : Str))
  else
    (jn (fun (y2 : Int) (y3 : Str) =>
      (saM ([109] : Str) y3).bind fun q13 =>
      some q13) fun K5 =>
    laws_markText_l1 K5 ((x0 - 0).toNat + 1) x0 ([] : Str))

def laws_markStringS_l1  (K6 : Int → Int → List Str → Option (Int × (List Str))) : Nat → Int → Int → List Str → Option (Int × (List Str))
  | 0, _, _, _ => none
  | m + 1, y1, y2, y3 =>
    bif decide ((y2 : Int) < ((y3.length : Int) : Int)) then
      ((Vm.laws_markText y1).bind fun z10 =>
      (gi y3 y2).bind fun u15 =>
      (siM y3 y2 z10).bind fun q18 =>
      laws_markStringS_l1 K6 m (w64 (y1 + 1)) (w64 (y2 + 1)) q18)
    else
      (K6 y1 y2 y3)

def laws_markStringS (x0 : List Str) (x1 : Int) : Option (Int × (List Str)) :=
  jn (fun (y1 : Int) (y2 : Int) (y3 : List Str) =>
    some (y1, y3)) fun K6 =>
  laws_markStringS_l1 K6 (((x0.length : Int) - 0).toNat + 1) x1 0 x0

def laws_markMemoS_l1  (K6 : Int → Int → List Vm.Memo → Option (Int × (List Vm.Memo))) : Nat → Int → Int → List Vm.Memo → Option (Int × (List Vm.Memo))
  | 0, _, _, _ => none
  | m + 1, y1, y2, y3 =>
    bif decide ((y2 : Int) < ((y3.length : Int) : Int)) then
      ((gi y3 y2).bind fun u10 =>
      (Vm.laws_markStringS u10.Old y1).bind fun z17 =>
      (siM y3 y2 (Vm.Memo.mk z17.2 u10.One u10.Two u10.Done)).bind fun q22_ =>
      (gi q22_ y2).bind fun u24 =>
      (Vm.laws_markStringS u24.One z17.1).bind fun z31 =>
      (siM q22_ y2 (Vm.Memo.mk u24.Old z31.2 u24.Two u24.Done)).bind fun q36_ =>
      (gi q36_ y2).bind fun u38 =>
      (Vm.laws_markStringS u38.Two z31.1).bind fun z45 =>
      (siM q36_ y2 (Vm.Memo.mk u38.Old u38.One z45.2 u38.Done)).bind fun q50_ =>
      (gi q50_ y2).bind fun u52 =>
      (Vm.laws_markStringS u52.Done z45.1).bind fun z59 =>
      (siM q50_ y2 (Vm.Memo.mk u52.Old u52.One u52.Two z59.2)).bind fun q64_ =>
      laws_markMemoS_l1 K6 m z59.1 (w64 (y2 + 1)) q64_)
    else
      (K6 y1 y2 y3)

def laws_markMemoS (x0 : List Vm.Memo) (x1 : Int) : Option (Int × (List Vm.Memo)) :=
  jn (fun (y1 : Int) (y2 : Int) (y3 : List Vm.Memo) =>
    some (y1, y3)) fun K6 =>
  laws_markMemoS_l1 K6 (((x0.length : Int) - 0).toNat + 1) x1 0 x0

def laws_markMemo (x0 : Vm.Memo) (x1 : Int) : Option (Int × Vm.Memo) :=
  (Vm.laws_markStringS x0.Old x1).bind fun z7 =>
  (Vm.laws_markStringS x0.One z7.1).bind fun z15 =>
  (Vm.laws_markStringS x0.Two z15.1).bind fun z23 =>
  (Vm.laws_markStringS x0.Done z23.1).bind fun z31 =>
  some (z31.1, Vm.Memo.mk z7.2 z15.2 z23.2 z31.2)

def laws_heldStringS_l1 (x0 : List Str) (K5 : Int → Int → Int → Option (Int)) : Nat → Int → Int → Int → Option (Int)
  | 0, _, _, _ => none
  | m + 1, y1, y2, y3 =>
    bif decide ((y3 : Int) < ((x0.length : Int) : Int)) then
      ((gi x0 y3).bind fun u12 =>
      (Vm.laws_markText y1).bind fun z15 =>
      bif (u12 != z15) then
        (some (-1))
      else
        (laws_heldStringS_l1 x0 K5 m (w64 (y1 + 1)) y2 (w64 (y3 + 1))))
    else
      (K5 y1 y2 y3)

def laws_heldStringS (x0 : List Str) (x1 : Int) : Option (Int) :=
  jn (fun (y1 : Int) (y2 : Int) (y3 : Int) =>
    some y1) fun K5 =>
  laws_heldStringS_l1 x0 K5 (((x0.length : Int) - 0).toNat + 1) x1 0 0

def laws_heldMemoS_l1 (x0 : List Vm.Memo) (K5 : Int → Int → Int → Option (Int)) : Nat → Int → Int → Int → Option (Int)
  | 0, _, _, _ => none
  | m + 1, y1, y2, y3 =>
    bif decide ((y3 : Int) < ((x0.length : Int) : Int)) then
      ((gi x0 y3).bind fun u10 =>
      (Vm.laws_heldStringS u10.Old y1).bind fun z15 =>
      bif decide ((z15 : Int) < (0 : Int)) then
        (some (-1))
      else
        ((gi x0 y3).bind fun u20 =>
        (Vm.laws_heldStringS u20.One z15).bind fun z26 =>
        bif decide ((z26 : Int) < (0 : Int)) then
          (some (-1))
        else
          ((gi x0 y3).bind fun u31 =>
          (Vm.laws_heldStringS u31.Two z26).bind fun z37 =>
          bif decide ((z37 : Int) < (0 : Int)) then
            (some (-1))
          else
            ((gi x0 y3).bind fun u42 =>
            (Vm.laws_heldStringS u42.Done z37).bind fun z48 =>
            bif decide ((z48 : Int) < (0 : Int)) then
              (some (-1))
            else
              (laws_heldMemoS_l1 x0 K5 m z48 y2 (w64 (y3 + 1)))))))
    else
      (K5 y1 y2 y3)

def laws_heldMemoS (x0 : List Vm.Memo) (x1 : Int) : Option (Int) :=
  jn (fun (y1 : Int) (y2 : Int) (y3 : Int) =>
    some y1) fun K5 =>
  laws_heldMemoS_l1 x0 K5 (((x0.length : Int) - 0).toNat + 1) x1 0 0

def laws_FnExactMemoPut (x0 : List Vm.Memo) (x1 : Vm.Memo) : Option (Bool) :=
  (Vm.laws_szMemoS x0 1048576).bind fun z4 =>
  bif decide ((z4 : Int) < (0 : Int)) then
    (some true)
  else
    ((Vm.laws_szMemo x1 z4).bind fun z14 =>
    bif decide ((z14 : Int) < (0 : Int)) then
      (some true)
    else
      ((Vm.laws_toMemoS x0).bind fun z24 =>
      (Vm.laws_toMemo x1).bind fun z33 =>
      (Vm.spec_MemoPut z24 (Vm.Memo.mk z33.Old z33.One z33.Two z33.Done)).bind fun z39 =>
      (Vm.laws_toMemoS x0).bind fun z50 =>
      (Vm.laws_toMemo x1).bind fun z65 =>
      (Vm.impl_MemoPut z50 (Vm.Memo.mk z65.Old z65.One z65.Two z65.Done)).bind fun z105 =>
      jn (fun (y122 : Bool) =>
        bif y122 then
          (some false)
        else
          ((Vm.laws_toMemoS x0).bind fun z142 =>
          (Vm.laws_eqMemoS z50 z142).bind fun z160 =>
          bif (!z160) then
            (some false)
          else
            ((Vm.laws_toMemo x1).bind fun z201 =>
            (Vm.laws_eqMemo (Vm.Memo.mk z65.Old z65.One z65.Two z65.Done) (Vm.Memo.mk z201.Old z201.One z201.Two z201.Done)).bind fun z220 =>
            bif (!z220) then
              (some false)
            else
              ((Vm.laws_markMemoS z50 1).bind fun z244 =>
              (Vm.laws_markMemo (Vm.Memo.mk z65.Old z65.One z65.Two z65.Done) z244.1).bind fun z266 =>
              jn (fun (y285 : Bool) =>
                bif y285 then
                  (some false)
                else
                  ((Vm.laws_markMemoS z105.1 1).bind fun z309 =>
                  (Vm.laws_heldMemoS z309.2 1).bind fun z331 =>
                  bif decide ((z331 : Int) < (0 : Int)) then
                    (some false)
                  else
                    (bif ((z331 : Int) != (z309.1 : Int)) then
                      (some false)
                    else
                      ((Vm.laws_toMemoS x0).bind fun z378 =>
                      (Vm.laws_toMemo x1).bind fun z405 =>
                      (Vm.impl_MemoPut z378 (Vm.Memo.mk z405.Old z405.One z405.Two z405.Done)).bind fun z429 =>
                      jn (fun (y457 : Bool) =>
                        bif y457 then
                          (some false)
                        else
                          ((Vm.laws_heldMemoS z309.2 1).bind fun z487 =>
                          bif decide ((z487 : Int) < (0 : Int)) then
                            (some false)
                          else
                            (bif ((z487 : Int) != (z309.1 : Int)) then
                              (some false)
                            else
                              (some true)))) fun K459 =>
                      (Vm.laws_eqMemoS z429.1 z39.1).bind fun z518 =>
                      bif (!z518) then
                        (K459 true)
                      else
                        (K459 (z429.2 != z39.2)))))) fun K287 =>
              bif decide ((z266.1 : Int) < (0 : Int)) then
                (K287 true)
              else
                ((Vm.laws_eqMemoS z105.1 z39.1).bind fun z549 =>
                bif (!z549) then
                  (K287 true)
                else
                  (K287 (z105.2 != z39.2))))))) fun K124 =>
      (Vm.laws_eqMemoS z105.1 z39.1).bind fun z573 =>
      bif (!z573) then
        (K124 true)
      else
        (K124 (z105.2 != z39.2))))

def spec_l1Table_l3 (x0 : List Str) (x1 : List Str) (y28 : Int) (K42 : Int → List (List Int) → Option ((List (List Int)))) : Nat → Int → List (List Int) → Option ((List (List Int)))
  | 0, _, _ => none
  | m + 1, y38, y39 =>
    bif decide ((0 : Int) ≤ (y38 : Int)) then
      (jn (fun (y46 : List (List Int)) =>
        spec_l1Table_l3 x0 x1 y28 K42 m (w64 (y38 - 1)) y46) fun K49 =>
      (gi x0 y28).bind fun u54 =>
      (gi x1 y38).bind fun u57 =>
      bif (u54 == u57) then
        ((gi y39 y28).bind fun u64 =>
        (gi y39 (w64 (y28 + 1))).bind fun u69 =>
        (gi u69 (w64 (y38 + 1))).bind fun u74 =>
        (gi u64 y38).bind fun u76 =>
        (siM u64 y38 (w64 (u74 + 1))).bind fun q81 =>
        (siM y39 y28 q81).bind fun q85_ =>
        K49 q85_)
      else
        ((gi y39 (w64 (y28 + 1))).bind fun u90 =>
        (gi u90 y38).bind fun u95 =>
        (gi y39 y28).bind fun u97 =>
        (gi u97 (w64 (y38 + 1))).bind fun u102 =>
        bif decide ((u102 : Int) ≤ (u95 : Int)) then
          ((gi y39 y28).bind fun u108 =>
          (gi y39 (w64 (y28 + 1))).bind fun u113 =>
          (gi u113 y38).bind fun u118 =>
          (gi u108 y38).bind fun u120 =>
          (siM u108 y38 u118).bind fun q125 =>
          (siM y39 y28 q125).bind fun q129_ =>
          K49 q129_)
        else
          ((gi y39 y28).bind fun u134 =>
          (gi y39 y28).bind fun u139 =>
          (gi u139 (w64 (y38 + 1))).bind fun u144 =>
          (gi u134 y38).bind fun u146 =>
          (siM u134 y38 u144).bind fun q151 =>
          (siM y39 y28 q151).bind fun q155_ =>
          K49 q155_)))
    else
      (K42 y38 y39)

def spec_l1Table_l2 (x0 : List Str) (x1 : List Str) (K33 : Int → List (List Int) → Option ((List (List Int)))) : Nat → Int → List (List Int) → Option ((List (List Int)))
  | 0, _, _ => none
  | m + 1, y28, y30 =>
    bif decide ((0 : Int) ≤ (y28 : Int)) then
      (jn (fun (y38 : Int) (y39 : List (List Int)) =>
        spec_l1Table_l2 x0 x1 K33 m (w64 (y28 - 1)) y39) fun K42 =>
      spec_l1Table_l3 x0 x1 y28 K42 (((w64 ((x1.length : Int) - 1)) + 1 - 0).toNat + 1) (w64 ((x1.length : Int) - 1)) y30)
    else
      (K33 y28 y30)

def spec_l1Table_l1 (x0 : List Str) (x1 : List Str) (K8 : List (List Int) → Int → Option ((List (List Int)))) : Nat → List (List Int) → Int → Option ((List (List Int)))
  | 0, _, _ => none
  | m + 1, y3, y6 =>
    bif decide ((y6 : Int) ≤ ((x0.length : Int) : Int)) then
      ((mkM (w64 ((x1.length : Int) + 1)) (0 : Int)).bind fun q14 =>
      (apM y3 [q14]).bind fun q23 =>
      spec_l1Table_l1 x0 x1 K8 m q23 (w64 (y6 + 1)))
    else
      (K8 y3 y6)

def spec_l1Table (x0 : List Str) (x1 : List Str) : Option ((List (List Int))) :=
  jn (fun (y3 : List (List Int)) (y6 : Int) =>
    jn (fun (y28 : Int) (y30 : List (List Int)) =>
      some y30) fun K33 =>
    spec_l1Table_l2 x0 x1 K33 (((w64 ((x0.length : Int) - 1)) + 1 - 0).toNat + 1) (w64 ((x0.length : Int) - 1)) y3) fun K8 =>
  spec_l1Table_l1 x0 x1 K8 (((x0.length : Int) + 1 - 0).toNat + 1) ([] : List (List Int)) 0

def spec_l1Match_l1 (x0 : List Str) (x1 : List Str) (z1 : (List (List Int))) (K14 : List Int → Int → Int → Option ((List Int))) : Nat → List Int → Int → Int → Option ((List Int))
  | 0, _, _, _ => none
  | m + 1, y8, y11, y12 =>
    bif decide ((y12 : Int) < ((x0.length : Int) : Int)) then
      (jn (fun (y20 : Bool) =>
        bif y20 then
          ((apM y8 [y11]).bind fun q31 =>
          spec_l1Match_l1 x0 x1 z1 K14 m q31 (w64 (y11 + 1)) (w64 (y12 + 1)))
        else
          (jn (fun (y37 : Bool) =>
            bif y37 then
              ((apM y8 [(-1)]).bind fun q48 =>
              spec_l1Match_l1 x0 x1 z1 K14 m q48 y11 (w64 (y12 + 1)))
            else
              (spec_l1Match_l1 x0 x1 z1 K14 m y8 (w64 (y11 + 1)) y12)) fun K39 =>
          bif decide (((x1.length : Int) : Int) ≤ (y11 : Int)) then
            (K39 true)
          else
            ((gi z1 (w64 (y12 + 1))).bind fun u60 =>
            (gi u60 y11).bind fun u65 =>
            (gi z1 y12).bind fun u67 =>
            (gi u67 (w64 (y11 + 1))).bind fun u72 =>
            K39 (decide ((u72 : Int) ≤ (u65 : Int)))))) fun K22 =>
      bif decide ((y11 : Int) < ((x1.length : Int) : Int)) then
        ((gi x0 y12).bind fun u80 =>
        (gi x1 y11).bind fun u83 =>
        K22 (u80 == u83))
      else
        (K22 false))
    else
      (K14 y8 y11 y12)

def spec_l1Match (x0 : List Str) (x1 : List Str) : Option ((List Int)) :=
  (Vm.spec_l1Table x0 x1).bind fun z1 =>
  jn (fun (y8 : List Int) (y11 : Int) (y12 : Int) =>
    some y8) fun K14 =>
  spec_l1Match_l1 x0 x1 z1 K14 (x0.length + x1.length + 1) ([] : List Int) 0 0

def spec_l3Part (x0 : List Str) (x1 : List Str) (x2 : List Str) : Option (Vm.Part) :=
  jn (fun (y3 : Bool) =>
    bif y3 then
      ((apM ([] : List Str) x2).bind fun q12 =>
      some (Vm.Part.mk false q12 ([] : List Str) ([] : List Str) ([] : List Str)))
    else
      ((Vm.spec_l1Same x2 x0).bind fun z26 =>
      bif z26 then
        ((apM ([] : List Str) x1).bind fun q35 =>
        some (Vm.Part.mk false q35 ([] : List Str) ([] : List Str) ([] : List Str)))
      else
        ((apM ([] : List Str) x0).bind fun q50 =>
        (apM ([] : List Str) x1).bind fun q60 =>
        (apM ([] : List Str) x2).bind fun q72 =>
        some (Vm.Part.mk true ([] : List Str) q50 q60 q72)))) fun K5 =>
  (Vm.spec_l1Same x1 x0).bind fun z102 =>
  bif z102 then
    (K5 z102)
  else
    ((Vm.spec_l1Same x1 x2).bind fun z110 =>
    K5 z110)

def spec_l3Put (x0 : List Vm.Part) (x1 : Vm.Part) : Option ((List Vm.Part)) :=
  jn (fun (y8 : Bool) =>
    bif y8 then
      (some x0)
    else
      (jn (fun (y26 : Bool) =>
        bif y26 then
          ((gi x0 (w64 ((x0.length : Int) - 1))).bind fun u45 =>
          (apM u45.Lines x1.Lines).bind fun q57 =>
          (gi x0 (w64 ((x0.length : Int) - 1))).bind fun u66 =>
          (siM x0 (w64 ((x0.length : Int) - 1)) (Vm.Part.mk u45.Clash q57 u45.Old u45.One u45.Two)).bind fun q69 =>
          some q69)
        else
          ((apM x0 [Vm.Part.mk x1.Clash x1.Lines x1.Old x1.One x1.Two]).bind fun q92 =>
          some q92)) fun K28 =>
      bif decide ((0 : Int) < ((x0.length : Int) : Int)) then
        (bif (!x1.Clash) then
          ((gi x0 (w64 ((x0.length : Int) - 1))).bind fun u104 =>
          K28 (!u104.Clash))
        else
          (K28 false))
      else
        (K28 false))) fun K10 =>
  bif (!x1.Clash) then
    (K10 (((x1.Lines.length : Int) : Int) == (0 : Int)))
  else
    (K10 false)

def spec_l3Of_l1 (x0 : List Str) (x1 : List Str) (x2 : List Str) (q15 : List Int) (q37 : List Int) (K53 : List Vm.Part → Int → Int → Int → Int → Option ((List Vm.Part))) : Nat → List Vm.Part → Int → Int → Int → Int → Option ((List Vm.Part))
  | 0, _, _, _, _, _ => none
  | m + 1, y45, y48, y49, y50, y51 =>
    bif decide ((y51 : Int) < ((q15.length : Int) : Int)) then
      (jn (fun (y61 : List Vm.Part) (y64 : Int) (y65 : Int) (y66 : Int) =>
        spec_l3Of_l1 x0 x1 x2 q15 q37 K53 m y61 y64 y65 y66 (w64 (y51 + 1))) fun K68 =>
      jn (fun (y74 : Bool) =>
        bif y74 then
          (K68 y45 y48 y49 y50)
        else
          ((slM x0 y48 y51).bind fun q91 =>
          (gi q15 y51).bind fun u96 =>
          (slM x1 y49 u96).bind fun q98 =>
          (gi q37 y51).bind fun u103 =>
          (slM x2 y50 u103).bind fun q105 =>
          (Vm.spec_l3Part q91 q98 q105).bind fun z110 =>
          (Vm.spec_l3Put y45 (Vm.Part.mk z110.Clash z110.Lines z110.Old z110.One z110.Two)).bind fun z119 =>
          jn (fun (y127 : List Vm.Part) =>
            (gi q15 y51).bind fun u137 =>
            (gi q37 y51).bind fun u139 =>
            K68 y127 (w64 (y51 + 1)) (w64 (u137 + 1)) (w64 (u139 + 1))) fun K131 =>
          bif decide ((y51 : Int) < ((x0.length : Int) : Int)) then
            ((gi x0 y51).bind fun u149 =>
            (Vm.spec_l3Put z119 (Vm.Part.mk false ([u149] : List Str) ([] : List Str) ([] : List Str) ([] : List Str))).bind fun z158 =>
            K131 z158)
          else
            (K131 z119))) fun K76 =>
      (gi q15 y51).bind fun u172 =>
      bif decide ((u172 : Int) < (0 : Int)) then
        (K76 true)
      else
        ((gi q37 y51).bind fun u175 =>
        K76 (decide ((u175 : Int) < (0 : Int)))))
    else
      (K53 y45 y48 y49 y50 y51)

def spec_l3Of (x0 : List Str) (x1 : List Str) (x2 : List Str) : Option ((List Vm.Part)) :=
  (Vm.spec_l1Match x0 x1).bind fun z5 =>
  (apM z5 [(x1.length : Int)]).bind fun q15 =>
  (Vm.spec_l1Match x0 x2).bind fun z23 =>
  (apM z23 [(x2.length : Int)]).bind fun q37 =>
  jn (fun (y45 : List Vm.Part) (y48 : Int) (y49 : Int) (y50 : Int) (y51 : Int) =>
    some y45) fun K53 =>
  spec_l3Of_l1 x0 x1 x2 q15 q37 K53 (((q15.length : Int) - 0).toNat + 1) ([] : List Part) 0 0 0 0

def spec_l18Find_l1 (x0 : List Vm.Memo) (x1 : List Str) (x2 : List Str) (x3 : List Str) (K7 : List Str → Bool → Int → Option ((List Str) × Bool)) : Nat → List Str → Bool → Int → Option ((List Str) × Bool)
  | 0, _, _, _ => none
  | m + 1, y1, y4, y5 =>
    bif decide ((y5 : Int) < ((x0.length : Int) : Int)) then
      ((gi x0 y5).bind fun u12 =>
      (Vm.spec_l18Same u12 x1 x2 x3).bind fun z28 =>
      bif z28 then
        ((gi x0 y5).bind fun u34 =>
        some (u34.Done, true))
      else
        (spec_l18Find_l1 x0 x1 x2 x3 K7 m y1 y4 (w64 (y5 + 1))))
    else
      (K7 y1 y4 y5)

def spec_l18Find (x0 : List Vm.Memo) (x1 : List Str) (x2 : List Str) (x3 : List Str) : Option ((List Str) × Bool) :=
  jn (fun (y1 : List Str) (y4 : Bool) (y5 : Int) =>
    some (([] : List Str), false)) fun K7 =>
  spec_l18Find_l1 x0 x1 x2 x3 K7 (((x0.length : Int) - 0).toNat + 1) ([] : List Str) false 0

def spec_MemoLeft_l1 (x0 : List Vm.Memo) (z9 : (List Vm.Part)) (K18 : Int → Int → Option (Int)) : Nat → Int → Int → Option (Int)
  | 0, _, _ => none
  | m + 1, y13, y14 =>
    bif decide ((y14 : Int) < ((z9.length : Int) : Int)) then
      (jn (fun (y23 : Int) =>
        spec_MemoLeft_l1 x0 z9 K18 m y23 (w64 (y14 + 1))) fun K27 =>
      (gi z9 y14).bind fun u33 =>
      (gi z9 y14).bind fun u38 =>
      (gi z9 y14).bind fun u43 =>
      (Vm.spec_l18Find x0 u33.Old u38.One u43.Two).bind fun z49 =>
      jn (fun (y55 : Bool) =>
        bif y55 then
          (K27 (w64 (y13 + 1)))
        else
          (K27 y13)) fun K57 =>
      (gi z9 y14).bind fun u61 =>
      bif u61.Clash then
        (K57 (!z49.2))
      else
        (K57 false))
    else
      (K18 y13 y14)

def spec_MemoLeft (x0 : List Vm.Memo) (x1 : List Str) (x2 : List Str) (x3 : List Str) : Option (Int) :=
  jn (fun (y1 : Bool) =>
    bif y1 then
      (some (-1))
    else
      ((Vm.spec_l3Of x1 x2 x3).bind fun z9 =>
      jn (fun (y13 : Int) (y14 : Int) =>
        some y13) fun K18 =>
      spec_MemoLeft_l1 x0 z9 K18 (((z9.length : Int) - 0).toNat + 1) 0 0)) fun K3 =>
  (Vm.spec_l18Ok x0).bind fun z64 =>
  bif (!z64) then
    (K3 true)
  else
    ((Vm.spec_l1Ok x1).bind fun z70 =>
    bif (!z70) then
      (K3 true)
    else
      ((Vm.spec_l1Ok x2).bind fun z76 =>
      bif (!z76) then
        (K3 true)
      else
        ((Vm.spec_l1Ok x3).bind fun z82 =>
        K3 (!z82))))

def impl_lcs_l3 (x0 : List Str) (x1 : List Str) (y27 : Int) (K41 : Int → List (List Int) → Option ((List (List Int)))) : Nat → Int → List (List Int) → Option ((List (List Int)))
  | 0, _, _ => none
  | m + 1, y37, y38 =>
    bif decide ((0 : Int) ≤ (y37 : Int)) then
      (jn (fun (y45 : List (List Int)) =>
        impl_lcs_l3 x0 x1 y27 K41 m (w64 (y37 - 1)) y45) fun K48 =>
      (gi x0 y27).bind fun u53 =>
      (gi x1 y37).bind fun u56 =>
      bif (u53 == u56) then
        ((gi y38 y27).bind fun u63 =>
        (gi y38 (w64 (y27 + 1))).bind fun u68 =>
        (gi u68 (w64 (y37 + 1))).bind fun u73 =>
        (gi u63 y37).bind fun u75 =>
        (siM u63 y37 (w64 (u73 + 1))).bind fun q80 =>
        (siM y38 y27 q80).bind fun q84_ =>
        K48 q84_)
      else
        ((gi y38 y27).bind fun u89 =>
        (gi y38 (w64 (y27 + 1))).bind fun u94 =>
        (gi u94 y37).bind fun u99 =>
        (gi y38 y27).bind fun u101 =>
        (gi u101 (w64 (y37 + 1))).bind fun u106 =>
        (gi u89 y37).bind fun u108 =>
        (siM u89 y37 (maxI u99 u106)).bind fun q113 =>
        (siM y38 y27 q113).bind fun q117_ =>
        K48 q117_))
    else
      (K41 y37 y38)

def impl_lcs_l2 (x0 : List Str) (x1 : List Str) (K32 : Int → List (List Int) → Option ((List (List Int)))) : Nat → Int → List (List Int) → Option ((List (List Int)))
  | 0, _, _ => none
  | m + 1, y27, y29 =>
    bif decide ((0 : Int) ≤ (y27 : Int)) then
      (jn (fun (y37 : Int) (y38 : List (List Int)) =>
        impl_lcs_l2 x0 x1 K32 m (w64 (y27 - 1)) y38) fun K41 =>
      impl_lcs_l3 x0 x1 y27 K41 (((w64 ((x1.length : Int) - 1)) + 1 - 0).toNat + 1) (w64 ((x1.length : Int) - 1)) y29)
    else
      (K32 y27 y29)

def impl_lcs_l1 (x1 : List Str) (q1 : List (List Int)) (K10 : Int → List (List Int) → Option ((List (List Int)))) : Nat → Int → List (List Int) → Option ((List (List Int)))
  | 0, _, _ => none
  | m + 1, y6, y7 =>
    bif decide ((y6 : Int) < ((q1.length : Int) : Int)) then
      ((mkM (w64 ((x1.length : Int) + 1)) (0 : Int)).bind fun q15 =>
      (gi y7 y6).bind fun u20 =>
      (siM y7 y6 q15).bind fun q23 =>
      impl_lcs_l1 x1 q1 K10 m (w64 (y6 + 1)) q23)
    else
      (K10 y6 y7)

def impl_lcs (x0 : List Str) (x1 : List Str) : Option ((List (List Int))) :=
  (mkM (w64 ((x0.length : Int) + 1)) (([] : List Int) : List Int)).bind fun q1 =>
  jn (fun (y6 : Int) (y7 : List (List Int)) =>
    jn (fun (y27 : Int) (y29 : List (List Int)) =>
      some y29) fun K32 =>
    impl_lcs_l2 x0 x1 K32 (((w64 ((x0.length : Int) - 1)) + 1 - 0).toNat + 1) (w64 ((x0.length : Int) - 1)) y7) fun K10 =>
  impl_lcs_l1 x1 q1 K10 (((q1.length : Int) - 0).toNat + 1) 0 q1

def impl_match_l1 (x0 : List Str) (x1 : List Str) (z1 : (List (List Int))) (K11 : List Int → Int → Int → Option ((List Int))) : Nat → List Int → Int → Int → Option ((List Int))
  | 0, _, _, _ => none
  | m + 1, y5, y8, y9 =>
    bif decide ((y8 : Int) < ((x0.length : Int) : Int)) then
      (jn (fun (y17 : Bool) =>
        bif y17 then
          ((apM y5 [y9]).bind fun q28 =>
          impl_match_l1 x0 x1 z1 K11 m q28 (w64 (y8 + 1)) (w64 (y9 + 1)))
        else
          (jn (fun (y34 : Bool) =>
            bif y34 then
              ((apM y5 [(-1)]).bind fun q45 =>
              impl_match_l1 x0 x1 z1 K11 m q45 (w64 (y8 + 1)) y9)
            else
              (impl_match_l1 x0 x1 z1 K11 m y5 y8 (w64 (y9 + 1)))) fun K36 =>
          bif ((y9 : Int) == ((x1.length : Int) : Int)) then
            (K36 true)
          else
            ((gi z1 (w64 (y8 + 1))).bind fun u57 =>
            (gi u57 y9).bind fun u62 =>
            (gi z1 y8).bind fun u64 =>
            (gi u64 (w64 (y9 + 1))).bind fun u69 =>
            K36 (decide ((u69 : Int) ≤ (u62 : Int)))))) fun K19 =>
      bif decide ((y9 : Int) < ((x1.length : Int) : Int)) then
        ((gi x0 y8).bind fun u77 =>
        (gi x1 y9).bind fun u80 =>
        K19 (u77 == u80))
      else
        (K19 false))
    else
      (K11 y5 y8 y9)

def impl_match (x0 : List Str) (x1 : List Str) : Option ((List Int)) :=
  (Vm.impl_lcs x0 x1).bind fun z1 =>
  jn (fun (y5 : List Int) (y8 : Int) (y9 : Int) =>
    some y5) fun K11 =>
  impl_match_l1 x0 x1 z1 K11 (x0.length + x1.length + 1) ([] : List Int) 0 0

def impl_mergeOf_c1 (x0 : List Str) (x1 : List Vm.Part) : Option ((List Vm.Part)) :=
  bif (((x0.length : Int) : Int) == (0 : Int)) then
    (some x1)
  else
    (jn (fun (y2 : Int) (y3 : List Vm.Part) =>
      (gi y3 y2).bind fun u14 =>
      (apM u14.Lines x0).bind fun q22 =>
      (gi y3 y2).bind fun u28 =>
      (siM y3 y2 (Vm.Part.mk u14.Clash q22 u14.Old u14.One u14.Two)).bind fun q31 =>
      some q31) fun K8 =>
    jn (fun (y35 : Bool) =>
      bif y35 then
        ((apM x1 ([Vm.Part.mk false ([] : List Str) ([] : List Str) ([] : List Str) ([] : List Str)])).bind fun q46 =>
        K8 (w64 ((w64 ((x1.length : Int) - 1)) + 1)) q46)
      else
        (K8 (w64 ((x1.length : Int) - 1)) x1)) fun K37 =>
    bif decide ((w64 ((x1.length : Int) - 1) : Int) < (0 : Int)) then
      (K37 true)
    else
      ((gi x1 (w64 ((x1.length : Int) - 1))).bind fun u57 =>
      K37 u57.Clash))

def impl_mergeOf_l1 (x0 : List Str) (x1 : List Str) (x2 : List Str) (q9 : List Int) (q28 : List Int) (K54 : Int → Int → Int → Int → List Vm.Part → Option ((List Vm.Part))) : Nat → Int → Int → Int → Int → List Vm.Part → Option ((List Vm.Part))
  | 0, _, _, _, _, _ => none
  | m + 1, y41, y42, y43, y48, y49 =>
    bif decide ((y48 : Int) < ((q9.length : Int) : Int)) then
      (jn (fun (y62 : Int) (y63 : Int) (y64 : Int) (y69 : List Vm.Part) =>
        impl_mergeOf_l1 x0 x1 x2 q9 q28 K54 m y62 y63 y64 (w64 (y48 + 1)) y69) fun K74 =>
      jn (fun (y80 : Bool) =>
        bif y80 then
          (K74 y41 y42 y43 y49)
        else
          ((slM x0 y41 y48).bind fun q99 =>
          (gi q9 y48).bind fun u104 =>
          (slM x1 y42 u104).bind fun q106 =>
          (gi q28 y48).bind fun u111 =>
          (slM x2 y43 u111).bind fun q113 =>
          jn (fun (y118 : List Vm.Part) =>
            jn (fun (y129 : List Vm.Part) =>
              (gi q9 y48).bind fun u148 =>
              (gi q28 y48).bind fun u150 =>
              K74 (w64 (y48 + 1)) (w64 (u148 + 1)) (w64 (u150 + 1)) y129) fun K134 =>
            bif decide ((y48 : Int) < ((x0.length : Int) : Int)) then
              ((slM x0 y48 (w64 (y48 + 1))).bind fun q154 =>
              (Vm.impl_mergeOf_c1 q154 y118).bind fun z158 =>
              K134 z158)
            else
              (K134 y118)) fun K123 =>
          jn (fun (y166 : Bool) =>
            bif y166 then
              ((Vm.impl_mergeOf_c1 q113 y49).bind fun z178 =>
              K123 z178)
            else
              ((Vm.slices_Equal_string_string q113 q99).bind fun z188 =>
              bif z188 then
                ((Vm.impl_mergeOf_c1 q106 y49).bind fun z200 =>
                K123 z200)
              else
                ((Vm.impl_copyText q99).bind fun z217 =>
                (Vm.impl_copyText q106).bind fun z228 =>
                (Vm.impl_copyText q113).bind fun z240 =>
                (apM y49 ([Vm.Part.mk true ([] : List Str) z217 z228 z240])).bind fun q263 =>
                K123 q263))) fun K168 =>
          (Vm.slices_Equal_string_string q106 q99).bind fun z281 =>
          bif z281 then
            (K168 true)
          else
            ((Vm.slices_Equal_string_string q106 q113).bind fun z294 =>
            K168 z294))) fun K82 =>
      (gi q9 y48).bind fun u304 =>
      bif decide ((u304 : Int) < (0 : Int)) then
        (K82 true)
      else
        ((gi q28 y48).bind fun u307 =>
        K82 (decide ((u307 : Int) < (0 : Int)))))
    else
      (K54 y41 y42 y43 y48 y49)

def impl_mergeOf (x0 : List Str) (x1 : List Str) (x2 : List Str) : Option ((List Vm.Part)) :=
  (Vm.impl_match x0 x1).bind fun z1 =>
  (apM z1 [(x1.length : Int)]).bind fun q9 =>
  (Vm.impl_match x0 x2).bind fun z16 =>
  (apM z16 [(x2.length : Int)]).bind fun q28 =>
  jn (fun (y41 : Int) (y42 : Int) (y43 : Int) (y48 : Int) (y49 : List Vm.Part) =>
    some y49) fun K54 =>
  impl_mergeOf_l1 x0 x1 x2 q9 q28 K54 (((q9.length : Int) - 0).toNat + 1) 0 0 0 0 ([] : List Part)

def impl_done_l1 (x0 : List Vm.Memo) (x1 : Vm.Part) (K11 : List Str → Bool → Int → Option ((List Str) × Bool)) : Nat → List Str → Bool → Int → Option ((List Str) × Bool)
  | 0, _, _, _ => none
  | m + 1, y4, y7, y9 =>
    bif decide ((y9 : Int) < ((x0.length : Int) : Int)) then
      ((gi x0 y9).bind fun u16 =>
      (Vm.impl_Memo_is u16 x1.Old x1.One x1.Two).bind fun z45 =>
      bif z45 then
        (some (u16.Done, true))
      else
        (impl_done_l1 x0 x1 K11 m y4 y7 (w64 (y9 + 1))))
    else
      (K11 y4 y7 y9)

def impl_done (x0 : List Vm.Memo) (x1 : Vm.Part) : Option ((List Str) × Bool) :=
  jn (fun (y4 : List Str) (y7 : Bool) (y9 : Int) =>
    some (([] : List Str), false)) fun K11 =>
  impl_done_l1 x0 x1 K11 (((x0.length : Int) - 0).toNat + 1) ([] : List Str) false 0

def impl_MemoLeft_l1 (x0 : List Vm.Memo) (z9 : (List Vm.Part)) (K19 : Int → Int → Option (Int)) : Nat → Int → Int → Option (Int)
  | 0, _, _ => none
  | m + 1, y13, y17 =>
    bif decide ((y17 : Int) < ((z9.length : Int) : Int)) then
      (jn (fun (y24 : Int) =>
        impl_MemoLeft_l1 x0 z9 K19 m y24 (w64 (y17 + 1))) fun K29 =>
      (gi z9 y17).bind fun u32 =>
      (Vm.impl_done x0 u32).bind fun z56 =>
      jn (fun (y63 : Bool) =>
        bif y63 then
          (K29 (w64 (y13 + 1)))
        else
          (K29 y13)) fun K65 =>
      bif u32.Clash then
        (K65 (!z56.2))
      else
        (K65 false))
    else
      (K19 y13 y17)

def impl_MemoLeft (x0 : List Vm.Memo) (x1 : List Str) (x2 : List Str) (x3 : List Str) : Option (Int) :=
  jn (fun (y1 : Bool) =>
    bif y1 then
      (some (-1))
    else
      ((Vm.impl_mergeOf x1 x2 x3).bind fun z9 =>
      jn (fun (y13 : Int) (y17 : Int) =>
        some y13) fun K19 =>
      impl_MemoLeft_l1 x0 z9 K19 (((z9.length : Int) - 0).toNat + 1) 0 0)) fun K3 =>
  (Vm.impl_MemosOk x0).bind fun z71 =>
  bif (!z71) then
    (K3 true)
  else
    ((Vm.impl_areTexts x1 x2 x3).bind fun z79 =>
    K3 (!z79))

def laws_FnExactMemoLeft (x0 : List Vm.Memo) (x1 : List Str) (x2 : List Str) (x3 : List Str) : Option (Bool) :=
  (Vm.laws_szMemoS x0 1048576).bind fun z1 =>
  bif decide ((z1 : Int) < (0 : Int)) then
    (some true)
  else
    ((Vm.laws_szStringS x1 z1).bind fun z7 =>
    bif decide ((z7 : Int) < (0 : Int)) then
      (some true)
    else
      ((Vm.laws_szStringS x2 z7).bind fun z13 =>
      bif decide ((z13 : Int) < (0 : Int)) then
        (some true)
      else
        ((Vm.laws_szStringS x3 z13).bind fun z19 =>
        bif decide ((z19 : Int) < (0 : Int)) then
          (some true)
        else
          ((Vm.laws_toMemoS x0).bind fun z25 =>
          (Vm.laws_toStringS x1).bind fun z30 =>
          (Vm.laws_toStringS x2).bind fun z36 =>
          (Vm.laws_toStringS x3).bind fun z43 =>
          (Vm.spec_MemoLeft z25 z30 z36 z43).bind fun z50 =>
          (Vm.laws_toMemoS x0).bind fun z59 =>
          (Vm.laws_toStringS x1).bind fun z68 =>
          (Vm.laws_toStringS x2).bind fun z78 =>
          (Vm.laws_toStringS x3).bind fun z89 =>
          (Vm.impl_MemoLeft z59 z68 z78 z89).bind fun z100 =>
          bif ((z100 : Int) != (z50 : Int)) then
            (some false)
          else
            ((Vm.laws_toMemoS x0).bind fun z114 =>
            (Vm.laws_eqMemoS z59 z114).bind fun z126 =>
            bif (!z126) then
              (some false)
            else
              ((Vm.laws_toStringS x1).bind fun z141 =>
              (Vm.laws_eqStringS z68 z141).bind fun z154 =>
              bif (!z154) then
                (some false)
              else
                ((Vm.laws_toStringS x2).bind fun z170 =>
                (Vm.laws_eqStringS z78 z170).bind fun z184 =>
                bif (!z184) then
                  (some false)
                else
                  ((Vm.laws_toStringS x3).bind fun z201 =>
                  (Vm.laws_eqStringS z89 z201).bind fun z216 =>
                  bif (!z216) then
                    (some false)
                  else
                    (some true)))))))))

def spec_l30Rd_one (x0 : Vm.l30Rd) (x1 : List Int) : Option (Int × Int) :=
  (Vm.spec_l30Rd_pick x0 (x1.length : Int)).bind fun z1 =>
  (gi x1 z1.1).bind fun u5 =>
  some (u5, z1.2)

def spec_l30Rd_of (x0 : Vm.l30Rd) (x1 : List Str) : Option (Str × Int) :=
  (Vm.spec_l30Rd_pick x0 (x1.length : Int)).bind fun z1 =>
  (gi x1 z1.1).bind fun u5 =>
  some (u5, z1.2)

def spec_l30Line (x0 : Vm.l30Rd) : Option (Str × Int) :=
  (Vm.spec_l30Rd_of x0 ([([97] : Str), ([98] : Str), ([99] : Str), ([100] : Str), ([] : Str), ([120, 32, 121] : Str), ([115, 101, 101, 32, 97] : Str), ([115, 101, 101, 32, 100, 47, 101] : Str), ([101, 110, 100] : Str)] : List Str)).bind fun z5 =>
  some (z5.1, z5.2)

def spec_l30Text_l1 (x0 : Vm.l30Rd) (K22 : List Str → Int → Int → Option ((List Str) × Int)) : Nat → List Str → Int → Int → Option ((List Str) × Int)
  | 0, _, _, _ => none
  | m + 1, y15, y18, y19 =>
    bif decide ((0 : Int) < (y18 : Int)) then
      ((Vm.spec_l30Line (Vm.l30Rd.mk x0.b y19)).bind fun z28 =>
      (apM y15 [z28.1]).bind fun q39 =>
      spec_l30Text_l1 x0 K22 m q39 (w64 (y18 - 1)) z28.2)
    else
      (K22 y15 y18 y19)

def spec_l30Text (x0 : Vm.l30Rd) : Option ((List Str) × Int) :=
  (Vm.spec_l30Rd_one x0 ([0, 1, 3, 5, 8] : List Int)).bind fun z9 =>
  jn (fun (y15 : List Str) (y18 : Int) (y19 : Int) =>
    some (y15, y19)) fun K22 =>
  spec_l30Text_l1 x0 K22 ((z9.1 - 0).toNat + 1) ([] : List Str) z9.1 z9.2

def spec_l30AnyText (x0 : Vm.l30Rd) : Option ((List Str) × Int) :=
  (Vm.spec_l30Text x0).bind fun z1 =>
  (Vm.spec_l30Rd_pick (Vm.l30Rd.mk x0.b z1.2) 16).bind fun z6 =>
  bif ((z6.1 : Int) == (0 : Int)) then
    ((Vm.spec_l30Rd_of (Vm.l30Rd.mk x0.b z6.2) ([([97, 32, 108, 105, 110, 101, 32, 116, 111, 111, 32, 108, 111, 110, 103] : Str), ([120, 10, 121] : Str), ([255] : Str)] : List Str)).bind fun z17 =>
    (apM z1.1 [z17.1]).bind fun q28 =>
    some (q28, z17.2))
  else
    (bif ((z6.1 : Int) == (1 : Int)) then
      ((apM z1.1 ([([49] : Str), ([50] : Str), ([51] : Str), ([52] : Str), ([53] : Str), ([54] : Str), ([55] : Str), ([56] : Str), ([57] : Str), ([49, 48] : Str)] : List Str)).bind fun q45 =>
      some (q45, z6.2))
    else
      (some (z1.1, z6.2)))

def spec_l30Turn_l1 (x0 : Vm.l30Rd) (K25 : List Str → Int → Int → Option ((List Str) × Int)) : Nat → List Str → Int → Int → Option ((List Str) × Int)
  | 0, _, _, _ => none
  | m + 1, y16, y19, y22 =>
    bif decide ((0 : Int) < (y19 : Int)) then
      (jn (fun (y29 : List Str) (y34 : Int) =>
        spec_l30Turn_l1 x0 K25 m y29 (w64 (y19 - 1)) y34) fun K37 =>
      (Vm.spec_l30Rd_pick (Vm.l30Rd.mk x0.b y22) (w64 ((y16.length : Int) + 1))).bind fun z40 =>
      (Vm.spec_l30Rd_pick (Vm.l30Rd.mk x0.b z40.2) 3).bind fun z46 =>
      bif ((z46.1 : Int) == (0 : Int)) then
        (bif decide (((y16.length : Int) : Int) < (10 : Int)) then
          ((slM y16 0 z40.1).bind fun q57 =>
          (apM ([] : List Str) q57).bind fun q61 =>
          (Vm.spec_l30Line (Vm.l30Rd.mk x0.b z46.2)).bind fun z68 =>
          (apM q61 [z68.1]).bind fun q79 =>
          (slM y16 z40.1 (y16.length : Int)).bind fun q86 =>
          (apM q79 q86).bind fun q90 =>
          K37 q90 z68.2)
        else
          (K37 y16 z46.2))
      else
        (bif ((z46.1 : Int) == (1 : Int)) then
          (bif decide ((z40.1 : Int) < ((y16.length : Int) : Int)) then
            ((slM y16 0 z40.1).bind fun q107 =>
            (slM y16 (w64 (z40.1 + 1)) (y16.length : Int)).bind fun q111 =>
            (apM ([] : List Str) q107).bind fun q119 =>
            (apM q119 q111).bind fun q126 =>
            K37 q126 z46.2)
          else
            (K37 y16 z46.2))
        else
          (bif decide ((z40.1 : Int) < ((y16.length : Int) : Int)) then
            ((Vm.spec_l30Line (Vm.l30Rd.mk x0.b z46.2)).bind fun z138 =>
            (gi y16 z40.1).bind fun u143 =>
            (siM y16 z40.1 z138.1).bind fun q146 =>
            K37 q146 z138.2)
          else
            (K37 y16 z46.2))))
    else
      (K25 y16 y19 y22)

def spec_l30Turn (x0 : Vm.l30Rd) (x1 : List Str) : Option ((List Str) × Int) :=
  (apM ([] : List Str) x1).bind fun q4 =>
  (Vm.spec_l30Rd_pick x0 4).bind fun z11 =>
  jn (fun (y16 : List Str) (y19 : Int) (y22 : Int) =>
    some (y16, y22)) fun K25 =>
  spec_l30Turn_l1 x0 K25 ((z11.1 - 0).toNat + 1) q4 z11.1 z11.2

def spec_l30Three (x0 : List Byte) : Option ((List Str) × (List Str) × (List Str)) :=
  (Vm.spec_l30Open x0).bind fun z1 =>
  (Vm.spec_l30AnyText z1).bind fun z6 =>
  (Vm.spec_l30Turn (Vm.l30Rd.mk z1.b z6.2) z6.1).bind fun z11 =>
  (Vm.spec_l30Rd_pick (Vm.l30Rd.mk z1.b z11.2) 8).bind fun z17 =>
  bif ((z17.1 : Int) == (0 : Int)) then
    (some (z6.1, z11.1, z11.1))
  else
    ((Vm.spec_l30Turn (Vm.l30Rd.mk z1.b z17.2) z6.1).bind fun z30 =>
    some (z6.1, z11.1, z30.1))

def spec_DrawMergeOf (x0 : List Byte) : Option ((List Str) × (List Str) × (List Str)) :=
  (Vm.spec_l30Three x0).bind fun z1 =>
  some (z1.1, z1.2.1, z1.2.2)

def impl_MergeOf (x0 : List Str) (x1 : List Str) (x2 : List Str) : Option ((List Vm.Part)) :=
  (Vm.impl_areTexts x0 x1 x2).bind fun z1 =>
  bif (!z1) then
    (some ([] : List Part))
  else
    ((Vm.impl_mergeOf x0 x1 x2).bind fun z9 =>
    some z9)

def spec_MergeOf (x0 : List Str) (x1 : List Str) (x2 : List Str) : Option ((List Vm.Part)) :=
  jn (fun (y1 : Bool) =>
    bif y1 then
      (some ([] : List Part))
    else
      ((Vm.spec_l3Of x0 x1 x2).bind fun z9 =>
      some z9)) fun K3 =>
  (Vm.spec_l1Ok x0).bind fun z13 =>
  bif (!z13) then
    (K3 true)
  else
    ((Vm.spec_l1Ok x1).bind fun z19 =>
    bif (!z19) then
      (K3 true)
    else
      ((Vm.spec_l1Ok x2).bind fun z25 =>
      K3 (!z25)))

def laws_smParts_l1 (x0 : List Vm.Part) (x1 : List Vm.Part) (K5 : Bool → Int → Option (Bool)) : Nat → Bool → Int → Option (Bool)
  | 0, _, _ => none
  | m + 1, y2, y3 =>
    bif decide ((y3 : Int) < ((x0.length : Int) : Int)) then
      (jn (fun (y10 : Bool) =>
        bif y10 then
          (some false)
        else
          (laws_smParts_l1 x0 x1 K5 m y2 (w64 (y3 + 1)))) fun K12 =>
      (gi x0 y3).bind fun u17 =>
      (gi x1 y3).bind fun u20 =>
      bif (u17.Clash != u20.Clash) then
        (K12 true)
      else
        ((gi x0 y3).bind fun u24 =>
        (gi x1 y3).bind fun u29 =>
        (Vm.laws_smTexts u24.Lines u29.Lines).bind fun z34 =>
        bif (!z34) then
          (K12 true)
        else
          ((gi x0 y3).bind fun u39 =>
          (gi x1 y3).bind fun u44 =>
          (Vm.laws_smTexts u39.Old u44.Old).bind fun z51 =>
          bif (!z51) then
            (K12 true)
          else
            ((gi x0 y3).bind fun u56 =>
            (gi x1 y3).bind fun u61 =>
            (Vm.laws_smTexts u56.One u61.One).bind fun z68 =>
            bif (!z68) then
              (K12 true)
            else
              ((gi x0 y3).bind fun u73 =>
              (gi x1 y3).bind fun u78 =>
              (Vm.laws_smTexts u73.Two u78.Two).bind fun z85 =>
              K12 (!z85))))))
    else
      (K5 y2 y3)

def laws_smParts (x0 : List Vm.Part) (x1 : List Vm.Part) : Option (Bool) :=
  bif (((x0.length : Int) : Int) != ((x1.length : Int) : Int)) then
    (some false)
  else
    (jn (fun (y2 : Bool) (y3 : Int) =>
      some true) fun K5 =>
    laws_smParts_l1 x0 x1 K5 (((x0.length : Int) - 0).toNat + 1) false 0)

def impl_MergeClash_l1 (z9 : (List Vm.Part)) (K17 : Int → Int → Option (Int)) : Nat → Int → Int → Option (Int)
  | 0, _, _ => none
  | m + 1, y13, y15 =>
    bif decide ((y15 : Int) < ((z9.length : Int) : Int)) then
      (jn (fun (y22 : Int) =>
        impl_MergeClash_l1 z9 K17 m y22 (w64 (y15 + 1))) fun K25 =>
      (gi z9 y15).bind fun u28 =>
      bif u28.Clash then
        (K25 (w64 (y13 + 1)))
      else
        (K25 y13))
    else
      (K17 y13 y15)

def impl_MergeClash (x0 : List Str) (x1 : List Str) (x2 : List Str) : Option (Int) :=
  (Vm.impl_areTexts x0 x1 x2).bind fun z1 =>
  bif (!z1) then
    (some (-1))
  else
    ((Vm.impl_mergeOf x0 x1 x2).bind fun z9 =>
    jn (fun (y13 : Int) (y15 : Int) =>
      some y13) fun K17 =>
    impl_MergeClash_l1 z9 K17 (((z9.length : Int) - 0).toNat + 1) 0 0)

def impl_MemoText_c1 (x0 : Vm.Part) (x1 : List Vm.Memo) : Option ((List Str) × Bool) :=
  (Vm.impl_done x1 x0).bind fun z9 =>
  some (z9.1, z9.2)

def impl_merged_at73_l1 (x4 : List Vm.Memo) (z10 : (List Vm.Part)) (K33 : List Str → Bool → List Str → Int → Option ((List Str) × Bool)) : Nat → List Str → Bool → List Str → Int → Option ((List Str) × Bool)
  | 0, _, _, _, _ => none
  | m + 1, y19, y22, y23, y30 =>
    bif decide ((y30 : Int) < ((z10.length : Int) : Int)) then
      ((gi z10 y30).bind fun u37 =>
      jn (fun (y61 : List Str) (y64 : Bool) (y65 : List Str) =>
        (apM y23 y65).bind fun q76 =>
        impl_merged_at73_l1 x4 z10 K33 m y61 y64 q76 (w64 (y30 + 1))) fun K72 =>
      bif u37.Clash then
        ((Vm.impl_MemoText_c1 u37 x4).bind fun z89 =>
        bif (!z89.2) then
          (some (([] : List Str), false))
        else
          (K72 y19 y22 z89.1))
      else
        (K72 y19 y22 u37.Lines))
    else
      (K33 y19 y22 y23 y30)

def impl_merged_at73 (x0 : List Str) (x1 : List Str) (x2 : List Str) (x4 : List Vm.Memo) : Option ((List Str) × Bool) :=
  (Vm.impl_areTexts x0 x1 x2).bind fun z1 =>
  bif (!z1) then
    (some (([] : List Str), false))
  else
    ((Vm.impl_mergeOf x0 x1 x2).bind fun z10 =>
    jn (fun (y19 : List Str) (y22 : Bool) (y23 : List Str) (y30 : Int) =>
      (Vm.impl_TextOk y23).bind fun z99 =>
      bif (!z99) then
        (some (([] : List Str), false))
      else
        (some (y23, true))) fun K33 =>
    impl_merged_at73_l1 x4 z10 K33 (((z10.length : Int) - 0).toNat + 1) ([] : List Str) false ([] : List Str) 0)

def impl_MemoText (x0 : List Vm.Memo) (x1 : List Str) (x2 : List Str) (x3 : List Str) : Option ((List Str) × Bool) :=
  (Vm.impl_MemosOk x0).bind fun z4 =>
  bif (!z4) then
    (some (([] : List Str), false))
  else
    ((Vm.impl_merged_at73 x1 x2 x3 x0).bind fun z14 =>
    some (z14.1, z14.2))

def impl_within (x0 : Int) (x1 : Int) (x2 : Int) : Option (Bool) :=
  jn (fun (y1 : Bool) =>
    some y1) fun K3 =>
  bif decide ((x1 : Int) ≤ (x0 : Int)) then
    (K3 (decide ((x0 : Int) ≤ (x2 : Int))))
  else
    (K3 false)

def impl_MergeSide_c1 (x0 : Vm.Part) (x1 : Int) : Option ((List Str) × Bool) :=
  (gi ([x0.Old, x0.One, x0.Two] : List (List Str)) x1).bind fun u11 =>
  some (u11, true)

def impl_merged_at75_l1 (x4 : Int) (z10 : (List Vm.Part)) (K33 : List Str → Bool → List Str → Int → Option ((List Str) × Bool)) : Nat → List Str → Bool → List Str → Int → Option ((List Str) × Bool)
  | 0, _, _, _, _ => none
  | m + 1, y19, y22, y23, y30 =>
    bif decide ((y30 : Int) < ((z10.length : Int) : Int)) then
      ((gi z10 y30).bind fun u37 =>
      jn (fun (y61 : List Str) (y64 : Bool) (y65 : List Str) =>
        (apM y23 y65).bind fun q76 =>
        impl_merged_at75_l1 x4 z10 K33 m y61 y64 q76 (w64 (y30 + 1))) fun K72 =>
      bif u37.Clash then
        ((Vm.impl_MergeSide_c1 u37 x4).bind fun z88 =>
        bif (!z88.2) then
          (some (([] : List Str), false))
        else
          (K72 y19 y22 z88.1))
      else
        (K72 y19 y22 u37.Lines))
    else
      (K33 y19 y22 y23 y30)

def impl_merged_at75 (x0 : List Str) (x1 : List Str) (x2 : List Str) (x4 : Int) : Option ((List Str) × Bool) :=
  (Vm.impl_areTexts x0 x1 x2).bind fun z1 =>
  bif (!z1) then
    (some (([] : List Str), false))
  else
    ((Vm.impl_mergeOf x0 x1 x2).bind fun z10 =>
    jn (fun (y19 : List Str) (y22 : Bool) (y23 : List Str) (y30 : Int) =>
      (Vm.impl_TextOk y23).bind fun z98 =>
      bif (!z98) then
        (some (([] : List Str), false))
      else
        (some (y23, true))) fun K33 =>
    impl_merged_at75_l1 x4 z10 K33 (((z10.length : Int) - 0).toNat + 1) ([] : List Str) false ([] : List Str) 0)

def impl_MergeSide (x0 : List Str) (x1 : List Str) (x2 : List Str) (x3 : Int) : Option ((List Str) × Bool) :=
  (Vm.impl_within x3 0 2).bind fun z3 =>
  bif (!z3) then
    (some (([] : List Str), false))
  else
    ((Vm.impl_merged_at75 x0 x1 x2 x3).bind fun z12 =>
    some (z12.1, z12.2))

def laws_FnMemoDone_l1 (z8 : (List Vm.Part)) (K47 : Bool → List Vm.Memo → Int → Option (Bool)) : Nat → Bool → List Vm.Memo → Int → Option (Bool)
  | 0, _, _, _ => none
  | m + 1, y39, y40, y43 =>
    bif decide ((y43 : Int) < ((z8.length : Int) : Int)) then
      (jn (fun (y53 : Bool) (y54 : List Vm.Memo) =>
        laws_FnMemoDone_l1 z8 K47 m y53 y54 (w64 (y43 + 1))) fun K60 =>
      (gi z8 y43).bind fun u64 =>
      bif u64.Clash then
        ((gi z8 y43).bind fun u72 =>
        (gi z8 y43).bind fun u77 =>
        (gi z8 y43).bind fun u82 =>
        (gi z8 y43).bind fun u87 =>
        (Vm.impl_MemoPut y40 (Vm.Memo.mk u72.Old u77.One u82.Two u87.One)).bind fun z92 =>
        jn (fun (y99 : Bool) =>
          bif y99 then
            (some true)
          else
            (K60 y39 z92.1)) fun K101 =>
        bif (!z92.2) then
          (K101 true)
        else
          (K101 (((z92.1.length : Int) : Int) == ((y40.length : Int) : Int))))
      else
        (K60 y39 y40))
    else
      (K47 y39 y40 y43)

def laws_FnMemoDone (x0 : List Byte) : Option (Bool) :=
  bif decide ((1048576 : Int) < ((x0.length : Int) : Int)) then
    (some true)
  else
    ((Vm.spec_DrawMergeOf x0).bind fun z2 =>
    (Vm.impl_MergeOf z2.1 z2.2.1 z2.2.2).bind fun z8 =>
    jn (fun (y13 : Bool) =>
      bif y13 then
        ((Vm.spec_MergeOf z2.1 z2.2.1 z2.2.2).bind fun z22 =>
        (Vm.laws_smParts z8 z22).bind fun z28 =>
        some z28)
      else
        (jn (fun (y39 : Bool) (y40 : List Vm.Memo) (y43 : Int) =>
          (Vm.impl_MemoText y40 z2.1 z2.2.1 z2.2.2).bind fun z115 =>
          (Vm.impl_MergeSide z2.1 z2.2.1 z2.2.2 1).bind fun z124 =>
          jn (fun (y132 : Bool) =>
            some y132) fun K134 =>
          bif (z115.2 == z124.2) then
            ((Vm.laws_smTexts z115.1 z124.1).bind fun z142 =>
            K134 z142)
          else
            (K134 false)) fun K47 =>
        laws_FnMemoDone_l1 z8 K47 (((z8.length : Int) - 0).toNat + 1) false ([] : List Memo) 0)) fun K15 =>
    (Vm.spec_MergeOf z2.1 z2.2.1 z2.2.2).bind fun z153 =>
    (Vm.laws_smParts z8 z153).bind fun z159 =>
    bif (!z159) then
      (K15 true)
    else
      ((Vm.impl_MergeClash z2.1 z2.2.1 z2.2.2).bind fun z169 =>
      K15 (decide ((z169 : Int) < (0 : Int)))))

def spec_MemoText_l1 (x0 : List Vm.Memo) (z12 : (List Vm.Part)) (K29 : List Str → Bool → List Str → Int → Option ((List Str) × Bool)) : Nat → List Str → Bool → List Str → Int → Option ((List Str) × Bool)
  | 0, _, _, _, _ => none
  | m + 1, y17, y20, y21, y24 =>
    bif decide ((y24 : Int) < ((z12.length : Int) : Int)) then
      (jn (fun (y34 : List Str) (y37 : Bool) (y38 : List Str) =>
        spec_MemoText_l1 x0 z12 K29 m y34 y37 y38 (w64 (y24 + 1))) fun K45 =>
      (gi z12 y24).bind fun u48 =>
      bif (!u48.Clash) then
        ((apM y21 u48.Lines).bind fun q72 =>
        K45 y17 y20 q72)
      else
        ((Vm.spec_l18Find x0 u48.Old u48.One u48.Two).bind fun z84 =>
        bif (!z84.2) then
          (some (([] : List Str), false))
        else
          ((apM y21 z84.1).bind fun q94 =>
          K45 y17 y20 q94)))
    else
      (K29 y17 y20 y21 y24)

def spec_MemoText (x0 : List Vm.Memo) (x1 : List Str) (x2 : List Str) (x3 : List Str) : Option ((List Str) × Bool) :=
  jn (fun (y3 : Bool) =>
    bif y3 then
      (some (([] : List Str), false))
    else
      ((Vm.spec_l3Of x1 x2 x3).bind fun z12 =>
      jn (fun (y17 : List Str) (y20 : Bool) (y21 : List Str) (y24 : Int) =>
        (Vm.spec_l1Ok y21).bind fun z101 =>
        bif (!z101) then
          (some (([] : List Str), false))
        else
          (some (y21, true))) fun K29 =>
      spec_MemoText_l1 x0 z12 K29 (((z12.length : Int) - 0).toNat + 1) ([] : List Str) false ([] : List Str) 0)) fun K5 =>
  (Vm.spec_l18Ok x0).bind fun z110 =>
  bif (!z110) then
    (K5 true)
  else
    ((Vm.spec_l1Ok x1).bind fun z117 =>
    bif (!z117) then
      (K5 true)
    else
      ((Vm.spec_l1Ok x2).bind fun z124 =>
      bif (!z124) then
        (K5 true)
      else
        ((Vm.spec_l1Ok x3).bind fun z131 =>
        K5 (!z131))))

def laws_FnExactMemoText (x0 : List Vm.Memo) (x1 : List Str) (x2 : List Str) (x3 : List Str) : Option (Bool) :=
  (Vm.laws_szMemoS x0 1048576).bind fun z1 =>
  bif decide ((z1 : Int) < (0 : Int)) then
    (some true)
  else
    ((Vm.laws_szStringS x1 z1).bind fun z7 =>
    bif decide ((z7 : Int) < (0 : Int)) then
      (some true)
    else
      ((Vm.laws_szStringS x2 z7).bind fun z13 =>
      bif decide ((z13 : Int) < (0 : Int)) then
        (some true)
      else
        ((Vm.laws_szStringS x3 z13).bind fun z19 =>
        bif decide ((z19 : Int) < (0 : Int)) then
          (some true)
        else
          ((Vm.laws_toMemoS x0).bind fun z25 =>
          (Vm.laws_toStringS x1).bind fun z30 =>
          (Vm.laws_toStringS x2).bind fun z36 =>
          (Vm.laws_toStringS x3).bind fun z43 =>
          (Vm.spec_MemoText z25 z30 z36 z43).bind fun z50 =>
          (Vm.laws_toMemoS x0).bind fun z59 =>
          (Vm.laws_toStringS x1).bind fun z69 =>
          (Vm.laws_toStringS x2).bind fun z80 =>
          (Vm.laws_toStringS x3).bind fun z92 =>
          (Vm.impl_MemoText z59 z69 z80 z92).bind fun z104 =>
          jn (fun (y117 : Bool) =>
            bif y117 then
              (some false)
            else
              ((Vm.laws_toMemoS x0).bind fun z133 =>
              (Vm.laws_eqMemoS z59 z133).bind fun z147 =>
              bif (!z147) then
                (some false)
              else
                ((Vm.laws_toStringS x1).bind fun z164 =>
                (Vm.laws_eqStringS z69 z164).bind fun z179 =>
                bif (!z179) then
                  (some false)
                else
                  ((Vm.laws_toStringS x2).bind fun z197 =>
                  (Vm.laws_eqStringS z80 z197).bind fun z213 =>
                  bif (!z213) then
                    (some false)
                  else
                    ((Vm.laws_toStringS x3).bind fun z232 =>
                    (Vm.laws_eqStringS z92 z232).bind fun z249 =>
                    bif (!z249) then
                      (some false)
                    else
                      ((Vm.laws_markMemoS z59 1).bind fun z268 =>
                      (Vm.laws_markStringS z69 z268.1).bind fun z285 =>
                      (Vm.laws_markStringS z80 z285.1).bind fun z302 =>
                      (Vm.laws_markStringS z92 z302.1).bind fun z319 =>
                      jn (fun (y336 : Bool) =>
                        bif y336 then
                          (some false)
                        else
                          ((Vm.laws_markStringS z104.1 1).bind fun z355 =>
                          (Vm.laws_heldStringS z355.2 1).bind fun z372 =>
                          bif decide ((z372 : Int) < (0 : Int)) then
                            (some false)
                          else
                            (bif ((z372 : Int) != (z355.1 : Int)) then
                              (some false)
                            else
                              ((Vm.laws_toMemoS x0).bind fun z393 =>
                              (Vm.laws_toStringS x1).bind fun z412 =>
                              (Vm.laws_toStringS x2).bind fun z432 =>
                              (Vm.laws_toStringS x3).bind fun z453 =>
                              (Vm.impl_MemoText z393 z412 z432 z453).bind fun z474 =>
                              jn (fun (y496 : Bool) =>
                                bif y496 then
                                  (some false)
                                else
                                  ((Vm.laws_heldStringS z355.2 1).bind fun z520 =>
                                  bif decide ((z520 : Int) < (0 : Int)) then
                                    (some false)
                                  else
                                    (bif ((z520 : Int) != (z355.1 : Int)) then
                                      (some false)
                                    else
                                      (some true)))) fun K498 =>
                              (Vm.laws_eqStringS z474.1 z50.1).bind fun z545 =>
                              bif (!z545) then
                                (K498 true)
                              else
                                (K498 (z474.2 != z50.2)))))) fun K338 =>
                      bif decide ((z319.1 : Int) < (0 : Int)) then
                        (K338 true)
                      else
                        ((Vm.laws_eqStringS z104.1 z50.1).bind fun z570 =>
                        bif (!z570) then
                          (K338 true)
                        else
                          (K338 (z104.2 != z50.2))))))))) fun K119 =>
          (Vm.laws_eqStringS z104.1 z50.1).bind fun z589 =>
          bif (!z589) then
            (K119 true)
          else
            (K119 (z104.2 != z50.2))))))

def spec_DrawMemoText_l1 (z31 : (List Vm.Part)) (K52 : List Vm.Memo → Int → List Byte → Int → Option ((List Vm.Memo) × (List Str) × (List Str) × (List Str))) : Nat → List Vm.Memo → Int → List Byte → Int → Option ((List Vm.Memo) × (List Str) × (List Str) × (List Str))
  | 0, _, _, _, _ => none
  | m + 1, y40, y43, y46, y49 =>
    bif decide ((y43 : Int) < ((z31.length : Int) : Int)) then
      (jn (fun (y61 : List Vm.Memo) (y66 : List Byte) (y69 : Int) =>
        spec_DrawMemoText_l1 z31 K52 m y61 (w64 (y43 + 1)) y66 y69) fun K72 =>
      jn (fun (y78 : Bool) (y79 : List Byte) (y82 : Int) =>
        bif y78 then
          ((gi z31 y43).bind fun u101 =>
          (gi z31 y43).bind fun u106 =>
          (gi z31 y43).bind fun u111 =>
          (Vm.spec_l30Short (Vm.l30Rd.mk y79 y82)).bind fun z117 =>
          (Vm.spec_MemoPut y40 (Vm.Memo.mk u101.Old u106.Two u111.One z117.1)).bind fun z129 =>
          bif z129.2 then
            (K72 z129.1 y79 z117.2)
          else
            (K72 y40 y79 z117.2))
        else
          (K72 y40 y79 y82)) fun K85 =>
      (gi z31 y43).bind fun u151 =>
      bif u151.Clash then
        ((Vm.spec_l30Rd_pick (Vm.l30Rd.mk y46 y49) 3).bind fun z154 =>
        K85 (decide ((0 : Int) < (z154.1 : Int))) y46 z154.2)
      else
        (K85 false y46 y49))
    else
      (K52 y40 y43 y46 y49)

def spec_DrawMemoText (x0 : List Byte) : Option ((List Vm.Memo) × (List Str) × (List Str) × (List Str)) :=
  (Vm.spec_l30Open x0).bind fun z1 =>
  (Vm.spec_l30Memos z1).bind fun z6 =>
  (Vm.spec_l30AnyText (Vm.l30Rd.mk z1.b z6.2)).bind fun z11 =>
  (Vm.spec_l30Turn (Vm.l30Rd.mk z1.b z11.2) z11.1).bind fun z17 =>
  (Vm.spec_l30Turn (Vm.l30Rd.mk z1.b z17.2) z11.1).bind fun z24 =>
  (Vm.spec_MergeOf z11.1 z17.1 z24.1).bind fun z31 =>
  jn (fun (y40 : List Vm.Memo) (y43 : Int) (y46 : List Byte) (y49 : Int) =>
    some (y40, z11.1, z17.1, z24.1)) fun K52 =>
  spec_DrawMemoText_l1 z31 K52 (((z31.length : Int) - 0).toNat + 1) z6.1 0 z1.b z24.2

def spec_DrawMemoLeft (x0 : List Byte) : Option ((List Vm.Memo) × (List Str) × (List Str) × (List Str)) :=
  (Vm.spec_DrawMemoText x0).bind fun z1 =>
  some (z1.1, z1.2.1, z1.2.2.1, z1.2.2.2)

def laws_FnMemoLeft_l1 (z2 : (List Vm.Memo) × (List Str) × (List Str) × (List Str)) (z6 : Int) (z31 : (List Vm.Part)) (K44 : Bool → Int → Option (Bool)) : Nat → Bool → Int → Option (Bool)
  | 0, _, _ => none
  | m + 1, y39, y40 =>
    bif decide ((y40 : Int) < ((z31.length : Int) : Int)) then
      (jn (fun (y53 : Bool) =>
        laws_FnMemoLeft_l1 z2 z6 z31 K44 m y53 (w64 (y40 + 1))) fun K57 =>
      (gi z31 y40).bind fun u64 =>
      bif (!u64.Clash) then
        (K57 y39)
      else
        ((gi z31 y40).bind fun u74 =>
        (gi z31 y40).bind fun u79 =>
        (gi z31 y40).bind fun u84 =>
        (Vm.impl_MemoPut z2.1 (Vm.Memo.mk u74.Old u79.One u84.Two ([] : List Str))).bind fun z89 =>
        jn (fun (y98 : Bool) =>
          bif y98 then
            (some false)
          else
            (jn (fun (y109 : Bool) =>
              bif y109 then
                (some false)
              else
                (K57 y39)) fun K111 =>
            bif z89.2 then
              (bif decide (((z2.1.length : Int) : Int) < ((z89.1.length : Int) : Int)) then
                ((Vm.impl_MemoLeft z89.1 z2.2.1 z2.2.2.1 z2.2.2.2).bind fun z122 =>
                K111 (decide ((z6 : Int) ≤ (z122 : Int))))
              else
                (K111 false))
            else
              (K111 false))) fun K100 =>
        bif z89.2 then
          ((Vm.impl_MemoLeft z89.1 z2.2.1 z2.2.2.1 z2.2.2.2).bind fun z133 =>
          K100 (decide ((z6 : Int) < (z133 : Int))))
        else
          (K100 false)))
    else
      (K44 y39 y40)

def laws_FnMemoLeft (x0 : List Byte) : Option (Bool) :=
  bif decide ((1048576 : Int) < ((x0.length : Int) : Int)) then
    (some true)
  else
    ((Vm.spec_DrawMemoLeft x0).bind fun z2 =>
    (Vm.impl_MemoLeft z2.1 z2.2.1 z2.2.2.1 z2.2.2.2).bind fun z6 =>
    jn (fun (y14 : Bool) =>
      bif y14 then
        ((Vm.spec_MemoLeft z2.1 z2.2.1 z2.2.2.1 z2.2.2.2).bind fun z23 =>
        some ((z6 : Int) == (z23 : Int)))
      else
        ((Vm.impl_MergeOf z2.2.1 z2.2.2.1 z2.2.2.2).bind fun z31 =>
        jn (fun (y39 : Bool) (y40 : Int) =>
          jn (fun (y143 : Bool) =>
            some y143) fun K145 =>
          (Vm.impl_MemoLeft ([] : List Memo) z2.2.1 z2.2.2.1 z2.2.2.2).bind fun z152 =>
          (Vm.impl_MergeClash z2.2.1 z2.2.2.1 z2.2.2.2).bind fun z161 =>
          bif ((z152 : Int) == (z161 : Int)) then
            ((Vm.impl_MemoLeft z2.1 z2.2.1 z2.2.2.2 z2.2.2.1).bind fun z171 =>
            K145 ((z171 : Int) == (z6 : Int)))
          else
            (K145 false)) fun K44 =>
        laws_FnMemoLeft_l1 z2 z6 z31 K44 (((z31.length : Int) - 0).toNat + 1) false 0)) fun K16 =>
    (Vm.spec_MemoLeft z2.1 z2.2.1 z2.2.2.1 z2.2.2.2).bind fun z180 =>
    bif ((z6 : Int) != (z180 : Int)) then
      (K16 true)
    else
      (K16 (decide ((z6 : Int) < (0 : Int)))))

def impl_MergeText_c1 (x0 : Vm.Part) : Option ((List Str) × Bool) :=
  some (([] : List Str), false)

def impl_merged_at81_l1 (z9 : (List Vm.Part)) (K29 : List Str → Bool → List Str → Int → Option ((List Str) × Bool)) : Nat → List Str → Bool → List Str → Int → Option ((List Str) × Bool)
  | 0, _, _, _, _ => none
  | m + 1, y16, y19, y20, y27 =>
    bif decide ((y27 : Int) < ((z9.length : Int) : Int)) then
      ((gi z9 y27).bind fun u33 =>
      jn (fun (y55 : List Str) (y58 : Bool) (y59 : List Str) =>
        (apM y20 y59).bind fun q69 =>
        impl_merged_at81_l1 z9 K29 m y55 y58 q69 (w64 (y27 + 1))) fun K65 =>
      bif u33.Clash then
        ((Vm.impl_MergeText_c1 u33).bind fun z80 =>
        bif (!z80.2) then
          (some (([] : List Str), false))
        else
          (K65 y16 y19 z80.1))
      else
        (K65 y16 y19 u33.Lines))
    else
      (K29 y16 y19 y20 y27)

def impl_merged_at81 (x0 : List Str) (x1 : List Str) (x2 : List Str) : Option ((List Str) × Bool) :=
  (Vm.impl_areTexts x0 x1 x2).bind fun z1 =>
  bif (!z1) then
    (some (([] : List Str), false))
  else
    ((Vm.impl_mergeOf x0 x1 x2).bind fun z9 =>
    jn (fun (y16 : List Str) (y19 : Bool) (y20 : List Str) (y27 : Int) =>
      (Vm.impl_TextOk y20).bind fun z95 =>
      bif (!z95) then
        (some (([] : List Str), false))
      else
        (some (y20, true))) fun K29 =>
    impl_merged_at81_l1 z9 K29 (((z9.length : Int) - 0).toNat + 1) ([] : List Str) false ([] : List Str) 0)

def impl_MergeText (x0 : List Str) (x1 : List Str) (x2 : List Str) : Option ((List Str) × Bool) :=
  (Vm.impl_merged_at81 x0 x1 x2).bind fun z1 =>
  some (z1.1, z1.2)

def laws_FnMemoText (x0 : List Byte) : Option (Bool) :=
  bif decide ((1048576 : Int) < ((x0.length : Int) : Int)) then
    (some true)
  else
    ((Vm.spec_DrawMemoText x0).bind fun z2 =>
    (Vm.impl_MemoText z2.1 z2.2.1 z2.2.2.1 z2.2.2.2).bind fun z6 =>
    (Vm.spec_MemoText z2.1 z2.2.1 z2.2.2.1 z2.2.2.2).bind fun z14 =>
    jn (fun (y23 : Bool) =>
      bif y23 then
        (jn (fun (y34 : Bool) =>
          some y34) fun K36 =>
        bif (z6.2 == z14.2) then
          ((Vm.laws_smTexts z6.1 z14.1).bind fun z45 =>
          K36 z45)
        else
          (K36 false))
      else
        ((Vm.impl_MemoText z2.1 z2.2.1 z2.2.2.2 z2.2.2.1).bind fun z55 =>
        (Vm.impl_MergeText z2.2.1 z2.2.2.1 z2.2.2.2).bind fun z65 =>
        (Vm.impl_MemoText ([] : List Memo) z2.2.1 z2.2.2.1 z2.2.2.2).bind fun z76 =>
        (Vm.impl_MemoLeft z2.1 z2.2.1 z2.2.2.1 z2.2.2.2).bind fun z88 =>
        jn (fun (y101 : Bool) =>
          some y101) fun K103 =>
        bif (z55.2 == z6.2) then
          ((Vm.laws_smTexts z55.1 z6.1).bind fun z115 =>
          bif z115 then
            (bif (z76.2 == z65.2) then
              ((Vm.laws_smTexts z76.1 z65.1).bind fun z130 =>
              bif z130 then
                (bif (!z6.2) then
                  ((Vm.impl_MergeClash z2.2.1 z2.2.2.1 z2.2.2.2).bind fun z145 =>
                  bif decide ((z88 : Int) ≤ (z145 : Int)) then
                    (bif (!z65.2) then
                      (K103 true)
                    else
                      (bif z6.2 then
                        ((Vm.laws_smTexts z6.1 z65.1).bind fun z161 =>
                        K103 z161)
                      else
                        (K103 false)))
                  else
                    (K103 false))
                else
                  (bif ((z88 : Int) == (0 : Int)) then
                    ((Vm.impl_MergeClash z2.2.1 z2.2.2.1 z2.2.2.2).bind fun z175 =>
                    bif decide ((z88 : Int) ≤ (z175 : Int)) then
                      (bif (!z65.2) then
                        (K103 true)
                      else
                        (bif z6.2 then
                          ((Vm.laws_smTexts z6.1 z65.1).bind fun z191 =>
                          K103 z191)
                        else
                          (K103 false)))
                    else
                      (K103 false))
                  else
                    (K103 false)))
              else
                (K103 false))
            else
              (K103 false))
          else
            (K103 false))
        else
          (K103 false))) fun K25 =>
    bif (z6.2 != z14.2) then
      (K25 true)
    else
      ((Vm.laws_smTexts z6.1 z14.1).bind fun z205 =>
      bif (!z205) then
        (K25 true)
      else
        ((Vm.impl_MergeClash z2.2.1 z2.2.2.1 z2.2.2.2).bind fun z216 =>
        bif decide ((z216 : Int) < (0 : Int)) then
          (K25 true)
        else
          ((Vm.impl_MemosOk z2.1).bind fun z227 =>
          K25 (!z227)))))

def spec_l30Review_l1 (x0 : Vm.l30Rd) (K76 : Int → Int → Str → Str → Str → List Str → Option (Vm.Review × Int)) : Nat → Int → Int → Str → Str → Str → List Str → Option (Vm.Review × Int)
  | 0, _, _, _, _, _, _ => none
  | m + 1, y65, y66, y68, y69, y70, y71 =>
    bif decide ((y65 : Int) < ((([([97, 110, 110] : Str), ([98, 111, 98] : Str), ([99, 105, 100] : Str)] : List Str).length : Int) : Int)) then
      (jn (fun (y85 : Int) (y87 : Str) (y88 : Str) (y89 : Str) (y90 : List Str) =>
        spec_l30Review_l1 x0 K76 m (w64 (y65 + 1)) y85 y87 y88 y89 y90) fun K95 =>
      (Vm.spec_l30Rd_pick (Vm.l30Rd.mk x0.b y66) 2).bind fun z103 =>
      bif ((z103.1 : Int) == (0 : Int)) then
        ((gi ([([97, 110, 110] : Str), ([98, 111, 98] : Str), ([99, 105, 100] : Str)] : List Str) y65).bind fun u125 =>
        (apM y71 [u125]).bind fun q137 =>
        K95 z103.2 y68 y69 y70 q137)
      else
        (K95 z103.2 y68 y69 y70 y71))
    else
      (K76 y65 y66 y68 y69 y70 y71)

def spec_l30Review (x0 : Vm.l30Rd) : Option (Vm.Review × Int) :=
  (Vm.spec_l30Rd_of x0 ([([115, 105, 100, 101] : Str), ([100, 101, 118] : Str), ([109, 97, 105, 110] : Str)] : List Str)).bind fun z9 =>
  (Vm.spec_l30Rd_of (Vm.l30Rd.mk x0.b z9.2) ([([109, 97, 105, 110] : Str), ([109, 97, 105, 110] : Str), ([100, 101, 118] : Str)] : List Str)).bind fun z21 =>
  (Vm.spec_l30Rd_of (Vm.l30Rd.mk x0.b z21.2) ([([97, 110, 110] : Str), ([98, 111, 98] : Str), ([101, 118, 101] : Str)] : List Str)).bind fun z35 =>
  jn (fun (y65 : Int) (y66 : Int) (y68 : Str) (y69 : Str) (y70 : Str) (y71 : List Str) =>
    jn (fun (y159 : Int) (y161 : Str) (y162 : Str) (y163 : Str) (y164 : List Str) =>
      some (Vm.Review.mk y161 y162 y163 y164, y159)) fun K169 =>
    (Vm.spec_l30Rd_pick (Vm.l30Rd.mk x0.b y66) 14).bind fun z195 =>
    bif ((z195.1 : Int) == (0 : Int)) then
      ((apM y71 ([([97, 110, 110] : Str)])).bind fun q217 =>
      K169 z195.2 y68 y69 y70 q217)
    else
      (K169 z195.2 y68 y69 y70 y71)) fun K76 =>
  spec_l30Review_l1 x0 K76 (((([([97, 110, 110] : Str), ([98, 111, 98] : Str), ([99, 105, 100] : Str)] : List Str).length : Int) - 0).toNat + 1) 0 z35.2 z9.1 z21.1 z35.1 ([] : List Str)

def spec_DrawReviewYes (x0 : List Byte) : Option (Vm.Review × Str) :=
  (Vm.spec_l30Open x0).bind fun z4 =>
  (Vm.spec_l30Review z4).bind fun z10 =>
  (Vm.spec_l30Rd_of (Vm.l30Rd.mk z4.b z10.2) ([([97, 110, 110] : Str), ([98, 111, 98] : Str), ([122, 111, 101] : Str), ([] : Str)] : List Str)).bind fun z38 =>
  some (Vm.Review.mk z10.1.Branch z10.1.Into z10.1.By z10.1.Yes, z38.1)

def impl_wordByte (x0 : Byte) : Option (Bool) :=
  jn (fun (y1 : Bool) =>
    some y1) fun K3 =>
  bif decide ((97 : Int) ≤ ((UInt8.toNat x0 : Int) : Int)) then
    (bif decide (((UInt8.toNat x0 : Int) : Int) ≤ (122 : Int)) then
      (K3 true)
    else
      (bif decide ((48 : Int) ≤ ((UInt8.toNat x0 : Int) : Int)) then
        (K3 (decide (((UInt8.toNat x0 : Int) : Int) ≤ (57 : Int))))
      else
        (K3 false)))
  else
    (bif decide ((48 : Int) ≤ ((UInt8.toNat x0 : Int) : Int)) then
      (K3 (decide (((UInt8.toNat x0 : Int) : Int) ≤ (57 : Int))))
    else
      (K3 false))

def impl_nameOk_l1 (x0 : Str) (K9 : Bool → Int → Option (Bool)) : Nat → Bool → Int → Option (Bool)
  | 0, _, _ => none
  | m + 1, y6, y7 =>
    bif decide ((y7 : Int) < ((x0.length : Int) : Int)) then
      ((chM x0 y7).bind fun u13 =>
      (Vm.impl_wordByte u13).bind fun z15 =>
      bif (!z15) then
        (some false)
      else
        (impl_nameOk_l1 x0 K9 m y6 (w64 (y7 + 1))))
    else
      (K9 y6 y7)

def impl_nameOk (x0 : Str) : Option (Bool) :=
  (Vm.impl_within (x0.length : Int) 1 6).bind fun z1 =>
  bif (!z1) then
    (some false)
  else
    (jn (fun (y6 : Bool) (y7 : Int) =>
      some true) fun K9 =>
    impl_nameOk_l1 x0 K9 (((x0.length : Int) - 0).toNat + 1) false 0)

def impl_namesOk_l1 (x0 : List Str) (K6 : Bool → Int → Option (Bool)) : Nat → Bool → Int → Option (Bool)
  | 0, _, _ => none
  | m + 1, y1, y4 =>
    bif decide ((y4 : Int) < ((x0.length : Int) : Int)) then
      ((gi x0 y4).bind fun u10 =>
      jn (fun (y13 : Bool) =>
        bif y13 then
          (some false)
        else
          (impl_namesOk_l1 x0 K6 m y1 (w64 (y4 + 1)))) fun K15 =>
      (Vm.impl_nameOk u10).bind fun z18 =>
      bif (!z18) then
        (K15 true)
      else
        (bif decide ((0 : Int) < (y4 : Int)) then
          ((gi x0 (w64 (y4 - 1))).bind fun u24 =>
          K15 (!Op.bytesLess u24 u10))
        else
          (K15 false)))
    else
      (K6 y1 y4)

def impl_namesOk (x0 : List Str) : Option (Bool) :=
  jn (fun (y1 : Bool) (y4 : Int) =>
    some true) fun K6 =>
  impl_namesOk_l1 x0 K6 (((x0.length : Int) - 0).toNat + 1) false 0

def impl_ReviewOk (x0 : Vm.Review) : Option (Bool) :=
  jn (fun (y3 : Bool) =>
    some y3) fun K5 =>
  (Vm.impl_nameOk x0.Branch).bind fun z8 =>
  bif z8 then
    ((Vm.impl_nameOk x0.Into).bind fun z14 =>
    bif z14 then
      ((Vm.impl_nameOk x0.By).bind fun z20 =>
      bif z20 then
        (bif (x0.Branch != x0.Into) then
          (bif decide (((x0.Yes.length : Int) : Int) ≤ (5 : Int)) then
            ((Vm.impl_namesOk x0.Yes).bind fun z29 =>
            K5 z29)
          else
            (K5 false))
        else
          (K5 false))
      else
        (K5 false))
    else
      (K5 false))
  else
    (K5 false)

def slices_Sort_string_string (x0 : List Str) : Option ((List Str)) :=
  if x0.length ≤ 4294967296 then some (sortStr x0) else none

def slices_Compact_string_string (x0 : List Str) : Option ((List Str)) :=
  if x0.length ≤ 4294967296 then some (dedup x0) else none

def impl_putName (x0 : List Str) (x1 : Str) : Option ((List Str)) :=
  (apM ([] : List Str) x0).bind fun q3 =>
  (apM q3 [x1]).bind fun q11 =>
  (Vm.slices_Sort_string_string q11).bind fun z16 =>
  (Vm.slices_Compact_string_string z16).bind fun z21 =>
  some z21

def impl_ReviewYes (x0 : Vm.Review) (x1 : Str) : Option (Vm.Review × Bool) :=
  (Vm.impl_ReviewOk x0).bind fun z7 =>
  bif (!z7) then
    (some (Vm.Review.mk ([] : Str) ([] : Str) ([] : Str) ([] : List Str), false))
  else
    ((Vm.impl_putName x0.Yes x1).bind fun z26 =>
    (Vm.impl_ReviewOk (Vm.Review.mk x0.Branch x0.Into x0.By z26)).bind fun z38 =>
    bif (!z38) then
      ((apM ([] : List Str) x0.Yes).bind fun q53 =>
      some (Vm.Review.mk x0.Branch x0.Into x0.By q53, false))
    else
      (some (Vm.Review.mk x0.Branch x0.Into x0.By z26, true)))

def spec_l1In (x0 : Int) (x1 : Int) (x2 : Int) : Option (Bool) :=
  jn (fun (y1 : Bool) =>
    some y1) fun K3 =>
  bif decide ((x1 : Int) ≤ (x0 : Int)) then
    (K3 (decide ((x0 : Int) ≤ (x2 : Int))))
  else
    (K3 false)

def spec_l4Name_l1 (x0 : Str) (K4 : Bool → Int → Option (Bool)) : Nat → Bool → Int → Option (Bool)
  | 0, _, _ => none
  | m + 1, y1, y2 =>
    bif decide ((y2 : Int) < ((x0.length : Int) : Int)) then
      (jn (fun (y8 : Bool) =>
        bif y8 then
          (some false)
        else
          (spec_l4Name_l1 x0 K4 m y1 (w64 (y2 + 1)))) fun K10 =>
      (chM x0 y2).bind fun u13 =>
      bif decide (((UInt8.toNat u13 : Int) : Int) < (97 : Int)) then
        ((chM x0 y2).bind fun u16 =>
        bif decide (((UInt8.toNat u16 : Int) : Int) < (48 : Int)) then
          (K10 true)
        else
          ((chM x0 y2).bind fun u19 =>
          K10 (decide ((57 : Int) < ((UInt8.toNat u19 : Int) : Int)))))
      else
        ((chM x0 y2).bind fun u21 =>
        bif decide ((122 : Int) < ((UInt8.toNat u21 : Int) : Int)) then
          ((chM x0 y2).bind fun u24 =>
          bif decide (((UInt8.toNat u24 : Int) : Int) < (48 : Int)) then
            (K10 true)
          else
            ((chM x0 y2).bind fun u27 =>
            K10 (decide ((57 : Int) < ((UInt8.toNat u27 : Int) : Int)))))
        else
          (K10 false)))
    else
      (K4 y1 y2)

def spec_l4Name (x0 : Str) : Option (Bool) :=
  jn (fun (y1 : Bool) (y2 : Int) =>
    (Vm.spec_l1In (x0.length : Int) 1 6).bind fun z29 =>
    some z29) fun K4 =>
  spec_l4Name_l1 x0 K4 (((x0.length : Int) - 0).toNat + 1) false 0

def spec_l17Ok_l1 (x0 : Vm.Review) (K6 : Bool → Int → Option (Bool)) : Nat → Bool → Int → Option (Bool)
  | 0, _, _ => none
  | m + 1, y3, y4 =>
    bif decide ((y4 : Int) < ((x0.Yes.length : Int) : Int)) then
      (jn (fun (y12 : Bool) =>
        bif y12 then
          (some false)
        else
          (spec_l17Ok_l1 x0 K6 m y3 (w64 (y4 + 1)))) fun K14 =>
      (gi x0.Yes y4).bind fun u21 =>
      (Vm.spec_l4Name u21).bind fun z24 =>
      bif (!z24) then
        (K14 true)
      else
        (bif decide ((0 : Int) < (y4 : Int)) then
          ((gi x0.Yes y4).bind fun u31 =>
          (gi x0.Yes (w64 (y4 - 1))).bind fun u33 =>
          K14 (Op.bytesLess u31 u33 || u31 == u33))
        else
          (K14 false)))
    else
      (K6 y3 y4)

def spec_l17Ok (x0 : Vm.Review) : Option (Bool) :=
  jn (fun (y3 : Bool) (y4 : Int) =>
    jn (fun (y35 : Bool) =>
      some y35) fun K37 =>
    (Vm.spec_l4Name x0.Branch).bind fun z40 =>
    bif z40 then
      ((Vm.spec_l4Name x0.Into).bind fun z46 =>
      bif z46 then
        ((Vm.spec_l4Name x0.By).bind fun z52 =>
        bif z52 then
          (bif (x0.Branch != x0.Into) then
            (K37 (decide (((x0.Yes.length : Int) : Int) ≤ (5 : Int))))
          else
            (K37 false))
        else
          (K37 false))
      else
        (K37 false))
    else
      (K37 false)) fun K6 =>
  spec_l17Ok_l1 x0 K6 (((x0.Yes.length : Int) - 0).toNat + 1) false 0

def spec_l5Put_l1 (x0 : List Str) (x1 : Str) (K3 : Int → Option ((List Str))) : Nat → Int → Option ((List Str))
  | 0, _ => none
  | m + 1, y1 =>
    jn (fun (y6 : Bool) =>
      bif y6 then
        (spec_l5Put_l1 x0 x1 K3 m (w64 (y1 + 1)))
      else
        (K3 y1)) fun K8 =>
    bif decide ((y1 : Int) < ((x0.length : Int) : Int)) then
      ((gi x0 y1).bind fun u56 =>
      K8 (Op.bytesLess u56 x1))
    else
      (K8 false)

def spec_l5Put (x0 : List Str) (x1 : Str) : Option ((List Str)) :=
  jn (fun (y1 : Int) =>
    jn (fun (y11 : Bool) =>
      bif y11 then
        (some x0)
      else
        ((slM x0 0 y1).bind fun q19 =>
        (apM ([] : List Str) q19).bind fun q24 =>
        (apM q24 [x1]).bind fun q31 =>
        (slM x0 y1 (x0.length : Int)).bind fun q36 =>
        (apM q31 q36).bind fun q41 =>
        some q41)) fun K13 =>
    bif decide ((y1 : Int) < ((x0.length : Int) : Int)) then
      ((gi x0 y1).bind fun u52 =>
      K13 (u52 == x1))
    else
      (K13 false)) fun K3 =>
  spec_l5Put_l1 x0 x1 K3 (x0.length + 1) 0

def spec_ReviewYes (x0 : Vm.Review) (x1 : Str) : Option (Vm.Review × Bool) :=
  (Vm.spec_l17Ok x0).bind fun z7 =>
  bif (!z7) then
    (some (Vm.Review.mk ([] : Str) ([] : Str) ([] : Str) ([] : List Str), false))
  else
    ((apM ([] : List Str) x0.Yes).bind fun q25 =>
    (Vm.spec_l5Put q25 x1).bind fun z32 =>
    (Vm.spec_l17Ok (Vm.Review.mk x0.Branch x0.Into x0.By z32)).bind fun z149 =>
    bif (!z149) then
      ((apM ([] : List Str) x0.Yes).bind fun q164 =>
      some (Vm.Review.mk x0.Branch x0.Into x0.By q164, false))
    else
      (some (Vm.Review.mk x0.Branch x0.Into x0.By z32, true)))

def laws_smReview (x0 : Vm.Review) (x1 : Vm.Review) : Option (Bool) :=
  jn (fun (y6 : Bool) =>
    some y6) fun K8 =>
  bif (x0.Branch == x1.Branch) then
    (bif (x0.Into == x1.Into) then
      (bif (x0.By == x1.By) then
        ((Vm.laws_smTexts x0.Yes x1.Yes).bind fun z17 =>
        K8 z17)
      else
        (K8 false))
    else
      (K8 false))
  else
    (K8 false)

def spec_ReviewOk (x0 : Vm.Review) : Option (Bool) :=
  (Vm.spec_l17Ok x0).bind fun z4 =>
  some z4

def laws_smHas_l1 (x0 : List Str) (x1 : Str) (K4 : Bool → Int → Option (Bool)) : Nat → Bool → Int → Option (Bool)
  | 0, _, _ => none
  | m + 1, y1, y2 =>
    bif decide ((y2 : Int) < ((x0.length : Int) : Int)) then
      ((gi x0 y2).bind fun u9 =>
      bif (u9 == x1) then
        (some true)
      else
        (laws_smHas_l1 x0 x1 K4 m y1 (w64 (y2 + 1))))
    else
      (K4 y1 y2)

def laws_smHas (x0 : List Str) (x1 : Str) : Option (Bool) :=
  jn (fun (y1 : Bool) (y2 : Int) =>
    some false) fun K4 =>
  laws_smHas_l1 x0 x1 K4 (((x0.length : Int) - 0).toNat + 1) false 0

def laws_FnReviewYes_l1 (z2 : Vm.Review × Str) (z12 : Vm.Review × Bool) (K143 : Bool → Int → Option (Bool)) : Nat → Bool → Int → Option (Bool)
  | 0, _, _ => none
  | m + 1, y140, y141 =>
    bif decide ((y141 : Int) < ((z2.1.Yes.length : Int) : Int)) then
      ((gi z2.1.Yes y141).bind fun u163 =>
      (Vm.laws_smHas z12.1.Yes u163).bind fun z165 =>
      bif (!z165) then
        (some false)
      else
        (laws_FnReviewYes_l1 z2 z12 K143 m y140 (w64 (y141 + 1))))
    else
      (K143 y140 y141)

def laws_FnReviewYes (x0 : List Byte) : Option (Bool) :=
  bif decide ((1048576 : Int) < ((x0.length : Int) : Int)) then
    (some true)
  else
    ((Vm.spec_DrawReviewYes x0).bind fun z2 =>
    (Vm.impl_ReviewYes (Vm.Review.mk z2.1.Branch z2.1.Into z2.1.By z2.1.Yes) z2.2).bind fun z12 =>
    (Vm.spec_ReviewYes (Vm.Review.mk z2.1.Branch z2.1.Into z2.1.By z2.1.Yes) z2.2).bind fun z28 =>
    jn (fun (y49 : Bool) =>
      bif y49 then
        (jn (fun (y59 : Bool) =>
          some y59) fun K61 =>
        bif (z12.2 == z28.2) then
          ((Vm.laws_smReview (Vm.Review.mk z12.1.Branch z12.1.Into z12.1.By z12.1.Yes) z28.1).bind fun z77 =>
          bif z77 then
            ((Vm.impl_ReviewOk (Vm.Review.mk z2.1.Branch z2.1.Into z2.1.By z2.1.Yes)).bind fun z87 =>
            (Vm.spec_ReviewOk (Vm.Review.mk z2.1.Branch z2.1.Into z2.1.By z2.1.Yes)).bind fun z96 =>
            K61 (z87 == z96))
          else
            (K61 false))
        else
          (K61 false))
      else
        (bif (!z12.2) then
          ((Vm.laws_smReview (Vm.Review.mk z12.1.Branch z12.1.Into z12.1.By z12.1.Yes) (Vm.Review.mk z2.1.Branch z2.1.Into z2.1.By z2.1.Yes)).bind fun z106 =>
          some z106)
        else
          ((Vm.impl_ReviewYes (Vm.Review.mk z12.1.Branch z12.1.Into z12.1.By z12.1.Yes) z2.2).bind fun z115 =>
          jn (fun (y140 : Bool) (y141 : Int) =>
            jn (fun (y177 : Bool) =>
              some y177) fun K179 =>
            (Vm.impl_ReviewOk (Vm.Review.mk z12.1.Branch z12.1.Into z12.1.By z12.1.Yes)).bind fun z188 =>
            bif z188 then
              ((Vm.laws_smHas z12.1.Yes z2.2).bind fun z200 =>
              bif z200 then
                (bif z115.2 then
                  ((Vm.laws_smReview (Vm.Review.mk z115.1.Branch z115.1.Into z115.1.By z115.1.Yes) (Vm.Review.mk z12.1.Branch z12.1.Into z12.1.By z12.1.Yes)).bind fun z213 =>
                  K179 z213)
                else
                  (K179 false))
              else
                (K179 false))
            else
              (K179 false)) fun K143 =>
          laws_FnReviewYes_l1 z2 z12 K143 (((z2.1.Yes.length : Int) - 0).toNat + 1) false 0))) fun K51 =>
    bif (z12.2 != z28.2) then
      (K51 true)
    else
      ((Vm.laws_smReview (Vm.Review.mk z12.1.Branch z12.1.Into z12.1.By z12.1.Yes) z28.1).bind fun z233 =>
      bif (!z233) then
        (K51 true)
      else
        ((Vm.impl_ReviewOk (Vm.Review.mk z2.1.Branch z2.1.Into z2.1.By z2.1.Yes)).bind fun z243 =>
        (Vm.spec_ReviewOk (Vm.Review.mk z2.1.Branch z2.1.Into z2.1.By z2.1.Yes)).bind fun z252 =>
        bif (z243 != z252) then
          (K51 true)
        else
          ((Vm.impl_ReviewOk (Vm.Review.mk z2.1.Branch z2.1.Into z2.1.By z2.1.Yes)).bind fun z262 =>
          K51 (!z262)))))

end Go.Vm
