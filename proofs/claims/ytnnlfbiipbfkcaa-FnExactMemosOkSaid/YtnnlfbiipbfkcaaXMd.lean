/- Models of the functions: plain Lean, printed by a program of ours. Conditions: none. -/
import Derived.Test.YtnnlfbiipbfkcaaXTy
namespace Go.Vm
open Go Go.Sx
set_option linter.unusedVariables false
set_option linter.unusedSimpArgs false

def laws_szStringS_l1 (x0 : List Str) (K6 : Int → Int → Int → Option (Int)) : Nat → Int → Int → Int → Option (Int)
  | 0, _, _, _ => none
  | m + 1, y2, y3, y4 =>
    bif decide ((y4 : Int) < ((x0.length : Int) : Int)) then
      ((gi x0 y4).bind fun u11 =>
      bif decide ((w64 (y2 - (u11.length : Int)) : Int) < (0 : Int)) then
        (some (-1))
      else
        (laws_szStringS_l1 x0 K6 m (w64 (y2 - (u11.length : Int))) y3 (w64 (y4 + 1))))
    else
      (K6 y2 y3 y4)

def laws_szStringS (x0 : List Str) (x1 : Int) : Option (Int) :=
  bif decide ((w64 (x1 - (x0.length : Int)) : Int) < (0 : Int)) then
    (some (-1))
  else
    (jn (fun (y2 : Int) (y3 : Int) (y4 : Int) =>
      some y2) fun K6 =>
    laws_szStringS_l1 x0 K6 (((x0.length : Int) - 0).toNat + 1) (w64 (x1 - (x0.length : Int))) 0 0)

def laws_szMemo (x0 : Memo) (x1 : Int) : Option (Int) :=
  (Vm.laws_szStringS x0.Old x1).bind fun x4 =>
  bif decide ((x4 : Int) < (0 : Int)) then
    (some (-1))
  else
    ((Vm.laws_szStringS x0.One x4).bind fun x11 =>
    bif decide ((x11 : Int) < (0 : Int)) then
      (some (-1))
    else
      ((Vm.laws_szStringS x0.Two x11).bind fun x18 =>
      bif decide ((x18 : Int) < (0 : Int)) then
        (some (-1))
      else
        ((Vm.laws_szStringS x0.Done x18).bind fun x25 =>
        bif decide ((x25 : Int) < (0 : Int)) then
          (some (-1))
        else
          (some x25))))

def laws_szMemoS_l1 (x0 : List Vm.Memo) (K6 : Int → Int → Int → Option (Int)) : Nat → Int → Int → Int → Option (Int)
  | 0, _, _, _ => none
  | m + 1, y2, y3, y4 =>
    bif decide ((y4 : Int) < ((x0.length : Int) : Int)) then
      ((gi x0 y4).bind fun u11 =>
      (Vm.laws_szMemo u11 y2).bind fun x24 =>
      bif decide ((x24 : Int) < (0 : Int)) then
        (some (-1))
      else
        (laws_szMemoS_l1 x0 K6 m x24 y3 (w64 (y4 + 1))))
    else
      (K6 y2 y3 y4)

def laws_szMemoS (x0 : List Memo) (x1 : Int) : Option (Int) :=
  bif decide ((w64 (x1 - (x0.length : Int)) : Int) < (0 : Int)) then
    (some (-1))
  else
    (jn (fun (y2 : Int) (y3 : Int) (y4 : Int) =>
      some y2) fun K6 =>
    laws_szMemoS_l1 x0 K6 (((x0.length : Int) - 0).toNat + 1) (w64 (x1 - (x0.length : Int))) 0 0)

def laws_toStringS_l1 (x0 : List Str) (K9 : Int → List Str → Option ((List Str))) : Nat → Int → List Str → Option ((List Str))
  | 0, _, _ => none
  | m + 1, y5, y6 =>
    bif decide ((y5 : Int) < ((x0.length : Int) : Int)) then
      ((gi x0 y5).bind fun u14 =>
      (gi y6 y5).bind fun u16 =>
      (siM y6 y5 u14).bind fun q19 =>
      laws_toStringS_l1 x0 K9 m (w64 (y5 + 1)) q19)
    else
      (K9 y5 y6)

def laws_toStringS (x0 : List Str) : Option ((List Str)) :=
  (mkM (x0.length : Int) (([] : Str) : Str)).bind fun q1 =>
  jn (fun (y5 : Int) (y6 : List Str) =>
    some y6) fun K9 =>
  laws_toStringS_l1 x0 K9 (((x0.length : Int) - 0).toNat + 1) 0 q1

def laws_toMemo (x0 : Memo) : Option (Memo) :=
  (Vm.laws_toStringS x0.Old).bind fun x11 =>
  (Vm.laws_toStringS x0.One).bind fun x24 =>
  (Vm.laws_toStringS x0.Two).bind fun x39 =>
  (Vm.laws_toStringS x0.Done).bind fun x56 =>
  some (Vm.Memo.mk x11 x24 x39 x56)

def laws_toMemoS_l1 (x0 : List Vm.Memo) (K9 : Int → List Vm.Memo → Option ((List Memo))) : Nat → Int → List Vm.Memo → Option ((List Memo))
  | 0, _, _ => none
  | m + 1, y5, y6 =>
    bif decide ((y5 : Int) < ((x0.length : Int) : Int)) then
      ((gi x0 y5).bind fun u14 =>
      (Vm.laws_toMemo u14).bind fun x27 =>
      (gi y6 y5).bind fun u32 =>
      (siM y6 y5 x27).bind fun q35 =>
      laws_toMemoS_l1 x0 K9 m (w64 (y5 + 1)) q35)
    else
      (K9 y5 y6)

def laws_toMemoS (x0 : List Memo) : Option ((List Memo)) :=
  (mkM (x0.length : Int) (Vm.Memo.mk ([] : List Str) ([] : List Str) ([] : List Str) ([] : List Str) : Memo)).bind fun q1 =>
  jn (fun (y5 : Int) (y6 : List Vm.Memo) =>
    some y6) fun K9 =>
  laws_toMemoS_l1 x0 K9 (((x0.length : Int) - 0).toNat + 1) 0 q1

def spec_l1Line_l1 (x0 : Str) (K4 : Bool → Int → Option (Bool)) : Nat → Bool → Int → Option (Bool)
  | 0, _, _ => none
  | m + 1, y1, y2 =>
    bif decide ((y2 : Int) < ((x0.length : Int) : Int)) then
      (jn (fun (y8 : Bool) =>
        bif y8 then
          (some false)
        else
          (spec_l1Line_l1 x0 K4 m y1 (w64 (y2 + 1)))) fun K10 =>
      (chM x0 y2).bind fun u13 =>
      bif decide (((UInt8.toNat u13 : Int) : Int) < (32 : Int)) then
        (K10 true)
      else
        ((chM x0 y2).bind fun u16 =>
        K10 (decide ((126 : Int) < ((UInt8.toNat u16 : Int) : Int)))))
    else
      (K4 y1 y2)

def spec_l1Line (x0 : Str) : Option (Bool) :=
  jn (fun (y1 : Bool) (y2 : Int) =>
    some (decide (((x0.length : Int) : Int) ≤ (12 : Int)))) fun K4 =>
  spec_l1Line_l1 x0 K4 (((x0.length : Int) - 0).toNat + 1) false 0

def spec_l1Ok_l1 (x0 : List Str) (K4 : Bool → Int → Option (Bool)) : Nat → Bool → Int → Option (Bool)
  | 0, _, _ => none
  | m + 1, y1, y2 =>
    bif decide ((y2 : Int) < ((x0.length : Int) : Int)) then
      ((gi x0 y2).bind fun u9 =>
      (Vm.spec_l1Line u9).bind fun x11 =>
      bif (!x11) then
        (some false)
      else
        (spec_l1Ok_l1 x0 K4 m y1 (w64 (y2 + 1))))
    else
      (K4 y1 y2)

def spec_l1Ok (x0 : List Str) : Option (Bool) :=
  jn (fun (y1 : Bool) (y2 : Int) =>
    some (decide (((x0.length : Int) : Int) ≤ (10 : Int)))) fun K4 =>
  spec_l1Ok_l1 x0 K4 (((x0.length : Int) - 0).toNat + 1) false 0

def spec_l1Same_l1 (x0 : List Str) (x1 : List Str) (K5 : Bool → Int → Option (Bool)) : Nat → Bool → Int → Option (Bool)
  | 0, _, _ => none
  | m + 1, y2, y3 =>
    bif decide ((y3 : Int) < ((x0.length : Int) : Int)) then
      ((gi x0 y3).bind fun u12 =>
      (gi x1 y3).bind fun u15 =>
      bif (u12 != u15) then
        (some false)
      else
        (spec_l1Same_l1 x0 x1 K5 m y2 (w64 (y3 + 1))))
    else
      (K5 y2 y3)

def spec_l1Same (x0 : List Str) (x1 : List Str) : Option (Bool) :=
  bif (((x0.length : Int) : Int) != ((x1.length : Int) : Int)) then
    (some false)
  else
    (jn (fun (y2 : Bool) (y3 : Int) =>
      some true) fun K5 =>
    spec_l1Same_l1 x0 x1 K5 (((x0.length : Int) - 0).toNat + 1) false 0)

def spec_l18Same (x0 : Memo) (x1 : List Str) (x2 : List Str) (x3 : List Str) : Option (Bool) :=
  jn (fun (y3 : Bool) =>
    some y3) fun K5 =>
  (Vm.spec_l1Same x0.Old x1).bind fun x10 =>
  bif x10 then
    ((Vm.spec_l1Same x0.One x2).bind fun x18 =>
    bif x18 then
      ((Vm.spec_l1Same x0.Two x3).bind fun x26 =>
      bif x26 then
        (K5 true)
      else
        ((Vm.spec_l1Same x0.One x3).bind fun x34 =>
        bif x34 then
          ((Vm.spec_l1Same x0.Two x2).bind fun x42 =>
          K5 x42)
        else
          (K5 false)))
    else
      ((Vm.spec_l1Same x0.One x3).bind fun x49 =>
      bif x49 then
        ((Vm.spec_l1Same x0.Two x2).bind fun x57 =>
        K5 x57)
      else
        (K5 false)))
  else
    (K5 false)

def spec_l18Ok_l2 (x0 : List Vm.Memo) (y2 : Int) (u11 : Vm.Memo) (K37 : Bool → Int → Option (Bool)) : Nat → Bool → Int → Option (Bool)
  | 0, _, _ => none
  | m + 1, y34, y35 =>
    bif decide ((y35 : Int) < (y2 : Int)) then
      ((gi x0 y35).bind fun u45 =>
      (Vm.spec_l18Same u45 u11.Old u11.One u11.Two).bind fun x62 =>
      bif x62 then
        (some false)
      else
        (spec_l18Ok_l2 x0 y2 u11 K37 m y34 (w64 (y35 + 1))))
    else
      (K37 y34 y35)

def spec_l18Ok_l1 (x0 : List Vm.Memo) (K6 : Bool → Int → Option (Bool)) : Nat → Bool → Int → Option (Bool)
  | 0, _, _ => none
  | m + 1, y1, y2 =>
    bif decide ((y2 : Int) < ((x0.length : Int) : Int)) then
      ((gi x0 y2).bind fun u11 =>
      jn (fun (y28 : Bool) =>
        bif y28 then
          (some false)
        else
          (jn (fun (y34 : Bool) (y35 : Int) =>
            spec_l18Ok_l1 x0 K6 m y34 (w64 (y2 + 1))) fun K37 =>
          spec_l18Ok_l2 x0 y2 u11 K37 ((y2 - 0).toNat + 1) y1 0)) fun K30 =>
      (Vm.spec_l1Ok u11.Old).bind fun x69 =>
      bif (!x69) then
        (K30 true)
      else
        ((Vm.spec_l1Ok u11.One).bind fun x76 =>
        bif (!x76) then
          (K30 true)
        else
          ((Vm.spec_l1Ok u11.Two).bind fun x83 =>
          bif (!x83) then
            (K30 true)
          else
            ((Vm.spec_l1Ok u11.Done).bind fun x90 =>
            bif (!x90) then
              (K30 true)
            else
              ((Vm.spec_l1Same u11.One u11.Two).bind fun x98 =>
              K30 x98)))))
    else
      (K6 y1 y2)

def spec_l18Ok (x0 : List Memo) : Option (Bool) :=
  jn (fun (y1 : Bool) (y2 : Int) =>
    some (decide (((x0.length : Int) : Int) ≤ (5 : Int)))) fun K6 =>
  spec_l18Ok_l1 x0 K6 (((x0.length : Int) - 0).toNat + 1) false 0

def spec_MemosOk (x0 : List Memo) : Option (Bool) :=
  (Vm.spec_l18Ok x0).bind fun x1 =>
  some x1

def impl_lineOk_l1 (x0 : Str) (K5 : Bool → Int → Option (Bool)) : Nat → Bool → Int → Option (Bool)
  | 0, _, _ => none
  | m + 1, y2, y3 =>
    bif decide ((y3 : Int) < ((x0.length : Int) : Int)) then
      (jn (fun (y9 : Bool) =>
        bif y9 then
          (some false)
        else
          (impl_lineOk_l1 x0 K5 m y2 (w64 (y3 + 1)))) fun K11 =>
      (chM x0 y3).bind fun u14 =>
      bif decide (((UInt8.toNat u14 : Int) : Int) < (32 : Int)) then
        (K11 true)
      else
        ((chM x0 y3).bind fun u17 =>
        K11 (decide ((126 : Int) < ((UInt8.toNat u17 : Int) : Int)))))
    else
      (K5 y2 y3)

def impl_lineOk (x0 : Str) : Option (Bool) :=
  bif decide ((12 : Int) < ((x0.length : Int) : Int)) then
    (some false)
  else
    (jn (fun (y2 : Bool) (y3 : Int) =>
      some true) fun K5 =>
    impl_lineOk_l1 x0 K5 (((x0.length : Int) - 0).toNat + 1) false 0)

def impl_TextOk_l1 (x0 : List Str) (K6 : Bool → Int → Option (Bool)) : Nat → Bool → Int → Option (Bool)
  | 0, _, _ => none
  | m + 1, y2, y4 =>
    bif decide ((y4 : Int) < ((x0.length : Int) : Int)) then
      ((gi x0 y4).bind fun u10 =>
      (Vm.impl_lineOk u10).bind fun x13 =>
      bif (!x13) then
        (some false)
      else
        (impl_TextOk_l1 x0 K6 m y2 (w64 (y4 + 1))))
    else
      (K6 y2 y4)

def impl_TextOk (x0 : List Str) : Option (Bool) :=
  bif decide ((10 : Int) < ((x0.length : Int) : Int)) then
    (some false)
  else
    (jn (fun (y2 : Bool) (y4 : Int) =>
      some true) fun K6 =>
    impl_TextOk_l1 x0 K6 (((x0.length : Int) - 0).toNat + 1) false 0)

def impl_areTexts (x0 : List Str) (x1 : List Str) (x2 : List Str) : Option (Bool) :=
  jn (fun (y1 : Bool) =>
    some y1) fun K3 =>
  (Vm.impl_TextOk x0).bind fun x5 =>
  bif x5 then
    ((Vm.impl_TextOk x1).bind fun x11 =>
    bif x11 then
      ((Vm.impl_TextOk x2).bind fun x17 =>
      K3 x17)
    else
      (K3 false))
  else
    (K3 false)

def slices_Equal_string_string_l1 (x0 : List Str) (x1 : List Str) (K6 : Bool → Int → Option (Bool)) : Nat → Bool → Int → Option (Bool)
  | 0, _, _ => none
  | m + 1, y2, y4 =>
    bif decide ((y4 : Int) < ((x0.length : Int) : Int)) then
      ((gi x0 y4).bind fun u12 =>
      (gi x1 y4).bind fun u15 =>
      bif (u12 != u15) then
        (some false)
      else
        (slices_Equal_string_string_l1 x0 x1 K6 m y2 (w64 (y4 + 1))))
    else
      (K6 y2 y4)

def slices_Equal_string_string (x0 : List Str) (x1 : List Str) : Option (Bool) :=
  bif (((x0.length : Int) : Int) != ((x1.length : Int) : Int)) then
    (some false)
  else
    (jn (fun (y2 : Bool) (y4 : Int) =>
      some true) fun K6 =>
    slices_Equal_string_string_l1 x0 x1 K6 (((x0.length : Int) - 0).toNat + 1) false 0)

def impl_Memo_is (x0 : Memo) (x1 : List Str) (x2 : List Str) (x3 : List Str) : Option (Bool) :=
  (Vm.slices_Equal_string_string x0.Old x1).bind fun x5 =>
  bif (!x5) then
    (some false)
  else
    (jn (fun (y11 : Bool) =>
      some y11) fun K13 =>
    (Vm.slices_Equal_string_string x0.One x2).bind fun x18 =>
    bif x18 then
      ((Vm.slices_Equal_string_string x0.Two x3).bind fun x26 =>
      bif x26 then
        (K13 true)
      else
        ((Vm.slices_Equal_string_string x0.One x3).bind fun x34 =>
        bif x34 then
          ((Vm.slices_Equal_string_string x0.Two x2).bind fun x42 =>
          K13 x42)
        else
          (K13 false)))
    else
      ((Vm.slices_Equal_string_string x0.One x3).bind fun x49 =>
      bif x49 then
        ((Vm.slices_Equal_string_string x0.Two x2).bind fun x57 =>
        K13 x57)
      else
        (K13 false)))

def impl_MemosOk_l2 (u12 : Vm.Memo) (q36 : List Vm.Memo) (K45 : Bool → Int → Option (Bool)) : Nat → Bool → Int → Option (Bool)
  | 0, _, _ => none
  | m + 1, y41, y43 =>
    bif decide ((y43 : Int) < ((q36.length : Int) : Int)) then
      ((gi q36 y43).bind fun u50 =>
      (Vm.impl_Memo_is u50 u12.Old u12.One u12.Two).bind fun x77 =>
      bif x77 then
        (some false)
      else
        (impl_MemosOk_l2 u12 q36 K45 m y41 (w64 (y43 + 1))))
    else
      (K45 y41 y43)

def impl_MemosOk_l1 (x0 : List Vm.Memo) (K8 : Bool → Int → Option (Bool)) : Nat → Bool → Int → Option (Bool)
  | 0, _, _ => none
  | m + 1, y2, y6 =>
    bif decide ((y6 : Int) < ((x0.length : Int) : Int)) then
      ((gi x0 y6).bind fun u12 =>
      jn (fun (y30 : Bool) =>
        bif y30 then
          (some false)
        else
          ((slM x0 0 y6).bind fun q36 =>
          jn (fun (y41 : Bool) (y43 : Int) =>
            impl_MemosOk_l1 x0 K8 m y41 (w64 (y6 + 1))) fun K45 =>
          impl_MemosOk_l2 u12 q36 K45 (((q36.length : Int) - 0).toNat + 1) y2 0)) fun K32 =>
      (Vm.impl_areTexts u12.Old u12.One u12.Two).bind fun x87 =>
      bif (!x87) then
        (K32 true)
      else
        ((Vm.impl_TextOk u12.Done).bind fun x94 =>
        bif (!x94) then
          (K32 true)
        else
          ((Vm.slices_Equal_string_string u12.One u12.Two).bind fun x102 =>
          K32 x102)))
    else
      (K8 y2 y6)

def impl_MemosOk (x0 : List Memo) : Option (Bool) :=
  bif decide ((5 : Int) < ((x0.length : Int) : Int)) then
    (some false)
  else
    (jn (fun (y2 : Bool) (y6 : Int) =>
      some true) fun K8 =>
    impl_MemosOk_l1 x0 K8 (((x0.length : Int) - 0).toNat + 1) false 0)

def laws_eqStringS_l1 (x0 : List Str) (x1 : List Str) (K5 : Bool → Int → Option (Bool)) : Nat → Bool → Int → Option (Bool)
  | 0, _, _ => none
  | m + 1, y2, y3 =>
    bif decide ((y3 : Int) < ((x0.length : Int) : Int)) then
      ((gi x0 y3).bind fun u12 =>
      (gi x1 y3).bind fun u15 =>
      bif (u12 != u15) then
        (some false)
      else
        (laws_eqStringS_l1 x0 x1 K5 m y2 (w64 (y3 + 1))))
    else
      (K5 y2 y3)

def laws_eqStringS (x0 : List Str) (x1 : List Str) : Option (Bool) :=
  bif (((x0.length : Int) : Int) != ((x1.length : Int) : Int)) then
    (some false)
  else
    (jn (fun (y2 : Bool) (y3 : Int) =>
      some true) fun K5 =>
    laws_eqStringS_l1 x0 x1 K5 (((x0.length : Int) - 0).toNat + 1) false 0)

def laws_eqMemo (x0 : Memo) (x1 : Memo) : Option (Bool) :=
  (Vm.laws_eqStringS x0.Old x1.Old).bind fun x8 =>
  bif (!x8) then
    (some false)
  else
    ((Vm.laws_eqStringS x0.One x1.One).bind fun x17 =>
    bif (!x17) then
      (some false)
    else
      ((Vm.laws_eqStringS x0.Two x1.Two).bind fun x26 =>
      bif (!x26) then
        (some false)
      else
        ((Vm.laws_eqStringS x0.Done x1.Done).bind fun x35 =>
        bif (!x35) then
          (some false)
        else
          (some true))))

def laws_eqMemoS_l1 (x0 : List Vm.Memo) (x1 : List Vm.Memo) (K5 : Bool → Int → Option (Bool)) : Nat → Bool → Int → Option (Bool)
  | 0, _, _ => none
  | m + 1, y2, y3 =>
    bif decide ((y3 : Int) < ((x0.length : Int) : Int)) then
      ((gi x0 y3).bind fun u12 =>
      (gi x1 y3).bind fun u26 =>
      (Vm.laws_eqMemo u12 u26).bind fun x40 =>
      bif (!x40) then
        (some false)
      else
        (laws_eqMemoS_l1 x0 x1 K5 m y2 (w64 (y3 + 1))))
    else
      (K5 y2 y3)

def laws_eqMemoS (x0 : List Memo) (x1 : List Memo) : Option (Bool) :=
  bif (((x0.length : Int) : Int) != ((x1.length : Int) : Int)) then
    (some false)
  else
    (jn (fun (y2 : Bool) (y3 : Int) =>
      some true) fun K5 =>
    laws_eqMemoS_l1 x0 x1 K5 (((x0.length : Int) - 0).toNat + 1) false 0)

def laws_FnExactMemosOk (x0 : List Memo) : Option (Bool) :=
  (Vm.laws_szMemoS x0 1048576).bind fun x1 =>
  bif decide ((x1 : Int) < (0 : Int)) then
    (some true)
  else
    ((Vm.laws_toMemoS x0).bind fun x7 =>
    (Vm.spec_MemosOk x7).bind fun x11 =>
    (Vm.laws_toMemoS x0).bind fun x17 =>
    (Vm.impl_MemosOk x17).bind fun x22 =>
    bif (x22 != x11) then
      (some false)
    else
      ((Vm.laws_toMemoS x0).bind fun x30 =>
      (Vm.laws_eqMemoS x17 x30).bind fun x36 =>
      bif (!x36) then
        (some false)
      else
        (some true)))

def impl_copyText (x0 : List Str) : Option ((List Str)) :=
  (apM ([] : List Str) x0).bind fun q3 =>
  some q3

def impl_Memo_own (x0 : Memo) : Option (Memo) :=
  (Vm.impl_copyText x0.Old).bind fun x11 =>
  (Vm.impl_copyText x0.One).bind fun x18 =>
  (Vm.impl_copyText x0.Two).bind fun x26 =>
  (Vm.impl_copyText x0.Done).bind fun x35 =>
  some (Vm.Memo.mk x11 x18 x26 x35)

def impl_ownMemos_l1 (x0 : List Vm.Memo) (K7 : List Vm.Memo → Int → Option ((List Memo))) : Nat → List Vm.Memo → Int → Option ((List Memo))
  | 0, _, _ => none
  | m + 1, y1, y5 =>
    bif decide ((y5 : Int) < ((x0.length : Int) : Int)) then
      ((gi x0 y5).bind fun u11 =>
      (Vm.impl_Memo_own u11).bind fun x35 =>
      (apM y1 [x35]).bind fun q49 =>
      impl_ownMemos_l1 x0 K7 m q49 (w64 (y5 + 1)))
    else
      (K7 y1 y5)

def impl_ownMemos (x0 : List Memo) : Option ((List Memo)) :=
  jn (fun (y1 : List Vm.Memo) (y5 : Int) =>
    some y1) fun K7 =>
  impl_ownMemos_l1 x0 K7 (((x0.length : Int) - 0).toNat + 1) ([] : List Memo) 0

def impl_MemoPut_l1 (x0 : List Vm.Memo) (x1 : Vm.Memo) (K17 : List Vm.Memo → Int → Option ((List Memo) × Bool)) : Nat → List Vm.Memo → Int → Option ((List Memo) × Bool)
  | 0, _, _ => none
  | m + 1, y11, y15 =>
    bif decide ((y15 : Int) < ((x0.length : Int) : Int)) then
      (jn (fun (y22 : List Vm.Memo) =>
        impl_MemoPut_l1 x0 x1 K17 m y22 (w64 (y15 + 1))) fun K27 =>
      (gi x0 y15).bind fun u30 =>
      (Vm.impl_Memo_is u30 x1.Old x1.One x1.Two).bind fun x59 =>
      bif (!x59) then
        ((Vm.impl_Memo_own u30).bind fun x71 =>
        (apM y11 [x71]).bind fun q87 =>
        K27 q87)
      else
        (K27 y11))
    else
      (K17 y11 y15)

def impl_MemoPut (x0 : List Memo) (x1 : Memo) : Option ((List Memo) × Bool) :=
  (Vm.impl_MemosOk x0).bind fun x4 =>
  bif (!x4) then
    (some (([] : List Memo), false))
  else
    (jn (fun (y11 : List Vm.Memo) (y15 : Int) =>
      (Vm.impl_Memo_own x1).bind fun x98 =>
      (apM y11 [x98]).bind fun q112 =>
      (Vm.impl_MemosOk q112).bind fun x118 =>
      bif (!x118) then
        ((Vm.impl_ownMemos x0).bind fun x127 =>
        some (x127, false))
      else
        (some (q112, true))) fun K17 =>
    impl_MemoPut_l1 x0 x1 K17 (((x0.length : Int) - 0).toNat + 1) ([] : List Memo) 0)

def laws_smTexts_l1 (x0 : List Str) (x1 : List Str) (K5 : Bool → Int → Option (Bool)) : Nat → Bool → Int → Option (Bool)
  | 0, _, _ => none
  | m + 1, y2, y3 =>
    bif decide ((y3 : Int) < ((x0.length : Int) : Int)) then
      ((gi x0 y3).bind fun u12 =>
      (gi x1 y3).bind fun u15 =>
      bif (u12 != u15) then
        (some false)
      else
        (laws_smTexts_l1 x0 x1 K5 m y2 (w64 (y3 + 1))))
    else
      (K5 y2 y3)

def laws_smTexts (x0 : List Str) (x1 : List Str) : Option (Bool) :=
  bif (((x0.length : Int) : Int) != ((x1.length : Int) : Int)) then
    (some false)
  else
    (jn (fun (y2 : Bool) (y3 : Int) =>
      some true) fun K5 =>
    laws_smTexts_l1 x0 x1 K5 (((x0.length : Int) - 0).toNat + 1) false 0)

def impl_within (x0 : Int) (x1 : Int) (x2 : Int) : Option (Bool) :=
  jn (fun (y1 : Bool) =>
    some y1) fun K3 =>
  bif decide ((x1 : Int) ≤ (x0 : Int)) then
    (K3 (decide ((x0 : Int) ≤ (x2 : Int))))
  else
    (K3 false)

def impl_MergeText_c1 (x0 : Part) : Option ((List Str) × Bool) :=
  some (([] : List Str), false)

def impl_wordByte (x0 : Byte) : Option (Bool) :=
  jn (fun (y1 : Bool) =>
    some y1) fun K3 =>
  bif decide ((97 : Int) ≤ ((UInt8.toNat x0 : Int) : Int)) then
    (bif decide (((UInt8.toNat x0 : Int) : Int) ≤ (122 : Int)) then
      (K3 true)
    else
      (bif decide ((48 : Int) ≤ ((UInt8.toNat x0 : Int) : Int)) then
        (K3 (decide (((UInt8.toNat x0 : Int) : Int) ≤ (57 : Int))))
      else
        (K3 false)))
  else
    (bif decide ((48 : Int) ≤ ((UInt8.toNat x0 : Int) : Int)) then
      (K3 (decide (((UInt8.toNat x0 : Int) : Int) ≤ (57 : Int))))
    else
      (K3 false))

def impl_nameOk_l1 (x0 : Str) (K9 : Bool → Int → Option (Bool)) : Nat → Bool → Int → Option (Bool)
  | 0, _, _ => none
  | m + 1, y6, y7 =>
    bif decide ((y7 : Int) < ((x0.length : Int) : Int)) then
      ((chM x0 y7).bind fun u13 =>
      (Vm.impl_wordByte u13).bind fun x15 =>
      bif (!x15) then
        (some false)
      else
        (impl_nameOk_l1 x0 K9 m y6 (w64 (y7 + 1))))
    else
      (K9 y6 y7)

def impl_nameOk (x0 : Str) : Option (Bool) :=
  (Vm.impl_within (x0.length : Int) 1 6).bind fun x1 =>
  bif (!x1) then
    (some false)
  else
    (jn (fun (y6 : Bool) (y7 : Int) =>
      some true) fun K9 =>
    impl_nameOk_l1 x0 K9 (((x0.length : Int) - 0).toNat + 1) false 0)

def impl_namesOk_l1 (x0 : List Str) (K6 : Bool → Int → Option (Bool)) : Nat → Bool → Int → Option (Bool)
  | 0, _, _ => none
  | m + 1, y1, y4 =>
    bif decide ((y4 : Int) < ((x0.length : Int) : Int)) then
      ((gi x0 y4).bind fun u10 =>
      jn (fun (y13 : Bool) =>
        bif y13 then
          (some false)
        else
          (impl_namesOk_l1 x0 K6 m y1 (w64 (y4 + 1)))) fun K15 =>
      (Vm.impl_nameOk u10).bind fun x18 =>
      bif (!x18) then
        (K15 true)
      else
        (bif decide ((0 : Int) < (y4 : Int)) then
          ((gi x0 (w64 (y4 - 1))).bind fun u24 =>
          K15 (!Op.bytesLess u24 u10))
        else
          (K15 false)))
    else
      (K6 y1 y4)

def impl_namesOk (x0 : List Str) : Option (Bool) :=
  jn (fun (y1 : Bool) (y4 : Int) =>
    some true) fun K6 =>
  impl_namesOk_l1 x0 K6 (((x0.length : Int) - 0).toNat + 1) false 0

def impl_ReviewOk (x0 : Review) : Option (Bool) :=
  jn (fun (y3 : Bool) =>
    some y3) fun K5 =>
  (Vm.impl_nameOk x0.Branch).bind fun x8 =>
  bif x8 then
    ((Vm.impl_nameOk x0.Into).bind fun x14 =>
    bif x14 then
      ((Vm.impl_nameOk x0.By).bind fun x20 =>
      bif x20 then
        (bif (x0.Branch != x0.Into) then
          (bif decide (((x0.Yes.length : Int) : Int) ≤ (5 : Int)) then
            ((Vm.impl_namesOk x0.Yes).bind fun x29 =>
            K5 x29)
          else
            (K5 false))
        else
          (K5 false))
      else
        (K5 false))
    else
      (K5 false))
  else
    (K5 false)

def cmp_isNaN_string (x0 : Str) : Option (Bool) :=
  some (x0 != x0)

def cmp_Less_string (x0 : Str) (x1 : Str) : Option (Bool) :=
  jn (fun (y1 : Bool) =>
    some y1) fun K3 =>
  (Vm.cmp_isNaN_string x0).bind fun x5 =>
  bif x5 then
    ((Vm.cmp_isNaN_string x1).bind fun x10 =>
    bif (!x10) then
      (K3 true)
    else
      (K3 (Op.bytesLess x0 x1)))
  else
    (K3 (Op.bytesLess x0 x1))

def spec_l1In (x0 : Int) (x1 : Int) (x2 : Int) : Option (Bool) :=
  jn (fun (y1 : Bool) =>
    some y1) fun K3 =>
  bif decide ((x1 : Int) ≤ (x0 : Int)) then
    (K3 (decide ((x0 : Int) ≤ (x2 : Int))))
  else
    (K3 false)

def spec_l4Name_l1 (x0 : Str) (K4 : Bool → Int → Option (Bool)) : Nat → Bool → Int → Option (Bool)
  | 0, _, _ => none
  | m + 1, y1, y2 =>
    bif decide ((y2 : Int) < ((x0.length : Int) : Int)) then
      (jn (fun (y8 : Bool) =>
        bif y8 then
          (some false)
        else
          (spec_l4Name_l1 x0 K4 m y1 (w64 (y2 + 1)))) fun K10 =>
      (chM x0 y2).bind fun u13 =>
      bif decide (((UInt8.toNat u13 : Int) : Int) < (97 : Int)) then
        ((chM x0 y2).bind fun u16 =>
        bif decide (((UInt8.toNat u16 : Int) : Int) < (48 : Int)) then
          (K10 true)
        else
          ((chM x0 y2).bind fun u19 =>
          K10 (decide ((57 : Int) < ((UInt8.toNat u19 : Int) : Int)))))
      else
        ((chM x0 y2).bind fun u21 =>
        bif decide ((122 : Int) < ((UInt8.toNat u21 : Int) : Int)) then
          ((chM x0 y2).bind fun u24 =>
          bif decide (((UInt8.toNat u24 : Int) : Int) < (48 : Int)) then
            (K10 true)
          else
            ((chM x0 y2).bind fun u27 =>
            K10 (decide ((57 : Int) < ((UInt8.toNat u27 : Int) : Int)))))
        else
          (K10 false)))
    else
      (K4 y1 y2)

def spec_l4Name (x0 : Str) : Option (Bool) :=
  jn (fun (y1 : Bool) (y2 : Int) =>
    (Vm.spec_l1In (x0.length : Int) 1 6).bind fun x29 =>
    some x29) fun K4 =>
  spec_l4Name_l1 x0 K4 (((x0.length : Int) - 0).toNat + 1) false 0

def laws_smReview (x0 : Review) (x1 : Review) : Option (Bool) :=
  jn (fun (y6 : Bool) =>
    some y6) fun K8 =>
  bif (x0.Branch == x1.Branch) then
    (bif (x0.Into == x1.Into) then
      (bif (x0.By == x1.By) then
        ((Vm.laws_smTexts x0.Yes x1.Yes).bind fun x17 =>
        K8 x17)
      else
        (K8 false))
    else
      (K8 false))
  else
    (K8 false)

def laws_smHas_l1 (x0 : List Str) (x1 : Str) (K4 : Bool → Int → Option (Bool)) : Nat → Bool → Int → Option (Bool)
  | 0, _, _ => none
  | m + 1, y1, y2 =>
    bif decide ((y2 : Int) < ((x0.length : Int) : Int)) then
      ((gi x0 y2).bind fun u9 =>
      bif (u9 == x1) then
        (some true)
      else
        (laws_smHas_l1 x0 x1 K4 m y1 (w64 (y2 + 1))))
    else
      (K4 y1 y2)

def laws_smHas (x0 : List Str) (x1 : Str) : Option (Bool) :=
  jn (fun (y1 : Bool) (y2 : Int) =>
    some false) fun K4 =>
  laws_smHas_l1 x0 x1 K4 (((x0.length : Int) - 0).toNat + 1) false 0

def laws_szReview (x0 : Review) (x1 : Int) : Option (Int) :=
  bif decide ((w64 (x1 - (x0.Branch.length : Int)) : Int) < (0 : Int)) then
    (some (-1))
  else
    (bif decide ((w64 ((w64 (x1 - (x0.Branch.length : Int))) - (x0.Into.length : Int)) : Int) < (0 : Int)) then
      (some (-1))
    else
      (bif decide ((w64 ((w64 ((w64 (x1 - (x0.Branch.length : Int))) - (x0.Into.length : Int))) - (x0.By.length : Int)) : Int) < (0 : Int)) then
        (some (-1))
      else
        ((Vm.laws_szStringS x0.Yes (w64 ((w64 ((w64 (x1 - (x0.Branch.length : Int))) - (x0.Into.length : Int))) - (x0.By.length : Int)))).bind fun x7 =>
        bif decide ((x7 : Int) < (0 : Int)) then
          (some (-1))
        else
          (some x7))))

def laws_toReview (x0 : Review) : Option (Review) :=
  (Vm.laws_toStringS x0.Yes).bind fun x23 =>
  some (Vm.Review.mk x0.Branch x0.Into x0.By x23)

def laws_eqReview (x0 : Review) (x1 : Review) : Option (Bool) :=
  bif (x0.Branch != x1.Branch) then
    (some false)
  else
    (bif (x0.Into != x1.Into) then
      (some false)
    else
      (bif (x0.By != x1.By) then
        (some false)
      else
        ((Vm.laws_eqStringS x0.Yes x1.Yes).bind fun x11 =>
        bif (!x11) then
          (some false)
        else
          (some true))))

end Go.Vm
