/- Models of the functions: plain Lean, printed by a program of ours. Conditions: none. -/
import Derived.Test.YtmjjhnahdmlmaaaXTy
namespace Go.Vm
open Go Go.Sx
set_option linter.unusedVariables false
set_option linter.unusedSimpArgs false

def laws_szStringS_l1 (x0 : List Str) (K6 : Int → Int → Int → Option (Int)) : Nat → Int → Int → Int → Option (Int)
  | 0, _, _, _ => none
  | m + 1, y2, y3, y4 =>
    bif decide ((y4 : Int) < ((x0.length : Int) : Int)) then
      ((gi x0 y4).bind fun u11 =>
      bif decide ((w64 (y2 - (u11.length : Int)) : Int) < (0 : Int)) then
        (some (-1))
      else
        (laws_szStringS_l1 x0 K6 m (w64 (y2 - (u11.length : Int))) y3 (w64 (y4 + 1))))
    else
      (K6 y2 y3 y4)

def laws_szStringS (x0 : List Str) (x1 : Int) : Option (Int) :=
  bif decide ((w64 (x1 - (x0.length : Int)) : Int) < (0 : Int)) then
    (some (-1))
  else
    (jn (fun (y2 : Int) (y3 : Int) (y4 : Int) =>
      some y2) fun K6 =>
    laws_szStringS_l1 x0 K6 (((x0.length : Int) - 0).toNat + 1) (w64 (x1 - (x0.length : Int))) 0 0)

def laws_szReview (x0 : Vm.Review) (x1 : Int) : Option (Int) :=
  bif decide ((w64 (x1 - (x0.Branch.length : Int)) : Int) < (0 : Int)) then
    (some (-1))
  else
    (bif decide ((w64 ((w64 (x1 - (x0.Branch.length : Int))) - (x0.Into.length : Int)) : Int) < (0 : Int)) then
      (some (-1))
    else
      (bif decide ((w64 ((w64 ((w64 (x1 - (x0.Branch.length : Int))) - (x0.Into.length : Int))) - (x0.By.length : Int)) : Int) < (0 : Int)) then
        (some (-1))
      else
        ((Vm.laws_szStringS x0.Yes (w64 ((w64 ((w64 (x1 - (x0.Branch.length : Int))) - (x0.Into.length : Int))) - (x0.By.length : Int)))).bind fun z7 =>
        bif decide ((z7 : Int) < (0 : Int)) then
          (some (-1))
        else
          (some z7))))

def laws_toStringS_l1 (x0 : List Str) (K9 : Int → List Str → Option ((List Str))) : Nat → Int → List Str → Option ((List Str))
  | 0, _, _ => none
  | m + 1, y5, y6 =>
    bif decide ((y5 : Int) < ((x0.length : Int) : Int)) then
      ((gi x0 y5).bind fun u14 =>
      (gi y6 y5).bind fun u16 =>
      (siM y6 y5 u14).bind fun q19 =>
      laws_toStringS_l1 x0 K9 m (w64 (y5 + 1)) q19)
    else
      (K9 y5 y6)

def laws_toStringS (x0 : List Str) : Option ((List Str)) :=
  (mkM (x0.length : Int) (([] : Str) : Str)).bind fun q1 =>
  jn (fun (y5 : Int) (y6 : List Str) =>
    some y6) fun K9 =>
  laws_toStringS_l1 x0 K9 (((x0.length : Int) - 0).toNat + 1) 0 q1

def laws_toReview (x0 : Vm.Review) : Option (Vm.Review) :=
  (Vm.laws_toStringS x0.Yes).bind fun z23 =>
  some (Vm.Review.mk x0.Branch x0.Into x0.By z23)

def spec_l1In (x0 : Int) (x1 : Int) (x2 : Int) : Option (Bool) :=
  jn (fun (y1 : Bool) =>
    some y1) fun K3 =>
  bif decide ((x1 : Int) ≤ (x0 : Int)) then
    (K3 (decide ((x0 : Int) ≤ (x2 : Int))))
  else
    (K3 false)

def spec_l4Name_l1 (x0 : Str) (K4 : Bool → Int → Option (Bool)) : Nat → Bool → Int → Option (Bool)
  | 0, _, _ => none
  | m + 1, y1, y2 =>
    bif decide ((y2 : Int) < ((x0.length : Int) : Int)) then
      (jn (fun (y8 : Bool) =>
        bif y8 then
          (some false)
        else
          (spec_l4Name_l1 x0 K4 m y1 (w64 (y2 + 1)))) fun K10 =>
      (chM x0 y2).bind fun u13 =>
      bif decide (((UInt8.toNat u13 : Int) : Int) < (97 : Int)) then
        ((chM x0 y2).bind fun u16 =>
        bif decide (((UInt8.toNat u16 : Int) : Int) < (48 : Int)) then
          (K10 true)
        else
          ((chM x0 y2).bind fun u19 =>
          K10 (decide ((57 : Int) < ((UInt8.toNat u19 : Int) : Int)))))
      else
        ((chM x0 y2).bind fun u21 =>
        bif decide ((122 : Int) < ((UInt8.toNat u21 : Int) : Int)) then
          ((chM x0 y2).bind fun u24 =>
          bif decide (((UInt8.toNat u24 : Int) : Int) < (48 : Int)) then
            (K10 true)
          else
            ((chM x0 y2).bind fun u27 =>
            K10 (decide ((57 : Int) < ((UInt8.toNat u27 : Int) : Int)))))
        else
          (K10 false)))
    else
      (K4 y1 y2)

def spec_l4Name (x0 : Str) : Option (Bool) :=
  jn (fun (y1 : Bool) (y2 : Int) =>
    (Vm.spec_l1In (x0.length : Int) 1 6).bind fun z29 =>
    some z29) fun K4 =>
  spec_l4Name_l1 x0 K4 (((x0.length : Int) - 0).toNat + 1) false 0

def spec_l17Ok_l1 (x0 : Vm.Review) (K6 : Bool → Int → Option (Bool)) : Nat → Bool → Int → Option (Bool)
  | 0, _, _ => none
  | m + 1, y3, y4 =>
    bif decide ((y4 : Int) < ((x0.Yes.length : Int) : Int)) then
      (jn (fun (y12 : Bool) =>
        bif y12 then
          (some false)
        else
          (spec_l17Ok_l1 x0 K6 m y3 (w64 (y4 + 1)))) fun K14 =>
      (gi x0.Yes y4).bind fun u21 =>
      (Vm.spec_l4Name u21).bind fun z24 =>
      bif (!z24) then
        (K14 true)
      else
        (bif decide ((0 : Int) < (y4 : Int)) then
          ((gi x0.Yes y4).bind fun u31 =>
          (gi x0.Yes (w64 (y4 - 1))).bind fun u33 =>
          K14 (Op.bytesLess u31 u33 || u31 == u33))
        else
          (K14 false)))
    else
      (K6 y3 y4)

def spec_l17Ok (x0 : Vm.Review) : Option (Bool) :=
  jn (fun (y3 : Bool) (y4 : Int) =>
    jn (fun (y35 : Bool) =>
      some y35) fun K37 =>
    (Vm.spec_l4Name x0.Branch).bind fun z40 =>
    bif z40 then
      ((Vm.spec_l4Name x0.Into).bind fun z46 =>
      bif z46 then
        ((Vm.spec_l4Name x0.By).bind fun z52 =>
        bif z52 then
          (bif (x0.Branch != x0.Into) then
            (K37 (decide (((x0.Yes.length : Int) : Int) ≤ (5 : Int))))
          else
            (K37 false))
        else
          (K37 false))
      else
        (K37 false))
    else
      (K37 false)) fun K6 =>
  spec_l17Ok_l1 x0 K6 (((x0.Yes.length : Int) - 0).toNat + 1) false 0

def spec_l5Put_l1 (x0 : List Str) (x1 : Str) (K3 : Int → Option ((List Str))) : Nat → Int → Option ((List Str))
  | 0, _ => none
  | m + 1, y1 =>
    jn (fun (y6 : Bool) =>
      bif y6 then
        (spec_l5Put_l1 x0 x1 K3 m (w64 (y1 + 1)))
      else
        (K3 y1)) fun K8 =>
    bif decide ((y1 : Int) < ((x0.length : Int) : Int)) then
      ((gi x0 y1).bind fun u56 =>
      K8 (Op.bytesLess u56 x1))
    else
      (K8 false)

def spec_l5Put (x0 : List Str) (x1 : Str) : Option ((List Str)) :=
  jn (fun (y1 : Int) =>
    jn (fun (y11 : Bool) =>
      bif y11 then
        (some x0)
      else
        ((slM x0 0 y1).bind fun q19 =>
        (apM ([] : List Str) q19).bind fun q24 =>
        (apM q24 [x1]).bind fun q31 =>
        (slM x0 y1 (x0.length : Int)).bind fun q36 =>
        (apM q31 q36).bind fun q41 =>
        some q41)) fun K13 =>
    bif decide ((y1 : Int) < ((x0.length : Int) : Int)) then
      ((gi x0 y1).bind fun u52 =>
      K13 (u52 == x1))
    else
      (K13 false)) fun K3 =>
  spec_l5Put_l1 x0 x1 K3 (x0.length + 1) 0

def spec_ReviewYes (x0 : Vm.Review) (x1 : Str) : Option (Vm.Review × Bool) :=
  (Vm.spec_l17Ok x0).bind fun z7 =>
  bif (!z7) then
    (some (Vm.Review.mk ([] : Str) ([] : Str) ([] : Str) ([] : List Str), false))
  else
    ((apM ([] : List Str) x0.Yes).bind fun q25 =>
    (Vm.spec_l5Put q25 x1).bind fun z32 =>
    (Vm.spec_l17Ok (Vm.Review.mk x0.Branch x0.Into x0.By z32)).bind fun z149 =>
    bif (!z149) then
      ((apM ([] : List Str) x0.Yes).bind fun q164 =>
      some (Vm.Review.mk x0.Branch x0.Into x0.By q164, false))
    else
      (some (Vm.Review.mk x0.Branch x0.Into x0.By z32, true)))

def impl_within (x0 : Int) (x1 : Int) (x2 : Int) : Option (Bool) :=
  jn (fun (y1 : Bool) =>
    some y1) fun K3 =>
  bif decide ((x1 : Int) ≤ (x0 : Int)) then
    (K3 (decide ((x0 : Int) ≤ (x2 : Int))))
  else
    (K3 false)

def impl_wordByte (x0 : Byte) : Option (Bool) :=
  jn (fun (y1 : Bool) =>
    some y1) fun K3 =>
  bif decide ((97 : Int) ≤ ((UInt8.toNat x0 : Int) : Int)) then
    (bif decide (((UInt8.toNat x0 : Int) : Int) ≤ (122 : Int)) then
      (K3 true)
    else
      (bif decide ((48 : Int) ≤ ((UInt8.toNat x0 : Int) : Int)) then
        (K3 (decide (((UInt8.toNat x0 : Int) : Int) ≤ (57 : Int))))
      else
        (K3 false)))
  else
    (bif decide ((48 : Int) ≤ ((UInt8.toNat x0 : Int) : Int)) then
      (K3 (decide (((UInt8.toNat x0 : Int) : Int) ≤ (57 : Int))))
    else
      (K3 false))

def impl_nameOk_l1 (x0 : Str) (K9 : Bool → Int → Option (Bool)) : Nat → Bool → Int → Option (Bool)
  | 0, _, _ => none
  | m + 1, y6, y7 =>
    bif decide ((y7 : Int) < ((x0.length : Int) : Int)) then
      ((chM x0 y7).bind fun u13 =>
      (Vm.impl_wordByte u13).bind fun z15 =>
      bif (!z15) then
        (some false)
      else
        (impl_nameOk_l1 x0 K9 m y6 (w64 (y7 + 1))))
    else
      (K9 y6 y7)

def impl_nameOk (x0 : Str) : Option (Bool) :=
  (Vm.impl_within (x0.length : Int) 1 6).bind fun z1 =>
  bif (!z1) then
    (some false)
  else
    (jn (fun (y6 : Bool) (y7 : Int) =>
      some true) fun K9 =>
    impl_nameOk_l1 x0 K9 (((x0.length : Int) - 0).toNat + 1) false 0)

def impl_namesOk_l1 (x0 : List Str) (K6 : Bool → Int → Option (Bool)) : Nat → Bool → Int → Option (Bool)
  | 0, _, _ => none
  | m + 1, y1, y4 =>
    bif decide ((y4 : Int) < ((x0.length : Int) : Int)) then
      ((gi x0 y4).bind fun u10 =>
      jn (fun (y13 : Bool) =>
        bif y13 then
          (some false)
        else
          (impl_namesOk_l1 x0 K6 m y1 (w64 (y4 + 1)))) fun K15 =>
      (Vm.impl_nameOk u10).bind fun z18 =>
      bif (!z18) then
        (K15 true)
      else
        (bif decide ((0 : Int) < (y4 : Int)) then
          ((gi x0 (w64 (y4 - 1))).bind fun u24 =>
          K15 (!Op.bytesLess u24 u10))
        else
          (K15 false)))
    else
      (K6 y1 y4)

def impl_namesOk (x0 : List Str) : Option (Bool) :=
  jn (fun (y1 : Bool) (y4 : Int) =>
    some true) fun K6 =>
  impl_namesOk_l1 x0 K6 (((x0.length : Int) - 0).toNat + 1) false 0

def impl_ReviewOk (x0 : Vm.Review) : Option (Bool) :=
  jn (fun (y3 : Bool) =>
    some y3) fun K5 =>
  (Vm.impl_nameOk x0.Branch).bind fun z8 =>
  bif z8 then
    ((Vm.impl_nameOk x0.Into).bind fun z14 =>
    bif z14 then
      ((Vm.impl_nameOk x0.By).bind fun z20 =>
      bif z20 then
        (bif (x0.Branch != x0.Into) then
          (bif decide (((x0.Yes.length : Int) : Int) ≤ (5 : Int)) then
            ((Vm.impl_namesOk x0.Yes).bind fun z29 =>
            K5 z29)
          else
            (K5 false))
        else
          (K5 false))
      else
        (K5 false))
    else
      (K5 false))
  else
    (K5 false)

def slices_Sort_string_string (x0 : List Str) : Option ((List Str)) :=
  if x0.length ≤ 4294967296 then some (sortStr x0) else none

def slices_Compact_string_string (x0 : List Str) : Option ((List Str)) :=
  if x0.length ≤ 4294967296 then some (dedup x0) else none

def impl_putName (x0 : List Str) (x1 : Str) : Option ((List Str)) :=
  (apM ([] : List Str) x0).bind fun q3 =>
  (apM q3 [x1]).bind fun q11 =>
  (Vm.slices_Sort_string_string q11).bind fun z16 =>
  (Vm.slices_Compact_string_string z16).bind fun z21 =>
  some z21

def impl_ReviewYes (x0 : Vm.Review) (x1 : Str) : Option (Vm.Review × Bool) :=
  (Vm.impl_ReviewOk x0).bind fun z7 =>
  bif (!z7) then
    (some (Vm.Review.mk ([] : Str) ([] : Str) ([] : Str) ([] : List Str), false))
  else
    ((Vm.impl_putName x0.Yes x1).bind fun z26 =>
    (Vm.impl_ReviewOk (Vm.Review.mk x0.Branch x0.Into x0.By z26)).bind fun z38 =>
    bif (!z38) then
      ((apM ([] : List Str) x0.Yes).bind fun q53 =>
      some (Vm.Review.mk x0.Branch x0.Into x0.By q53, false))
    else
      (some (Vm.Review.mk x0.Branch x0.Into x0.By z26, true)))

def laws_eqStringS_l1 (x0 : List Str) (x1 : List Str) (K5 : Bool → Int → Option (Bool)) : Nat → Bool → Int → Option (Bool)
  | 0, _, _ => none
  | m + 1, y2, y3 =>
    bif decide ((y3 : Int) < ((x0.length : Int) : Int)) then
      ((gi x0 y3).bind fun u12 =>
      (gi x1 y3).bind fun u15 =>
      bif (u12 != u15) then
        (some false)
      else
        (laws_eqStringS_l1 x0 x1 K5 m y2 (w64 (y3 + 1))))
    else
      (K5 y2 y3)

def laws_eqStringS (x0 : List Str) (x1 : List Str) : Option (Bool) :=
  bif (((x0.length : Int) : Int) != ((x1.length : Int) : Int)) then
    (some false)
  else
    (jn (fun (y2 : Bool) (y3 : Int) =>
      some true) fun K5 =>
    laws_eqStringS_l1 x0 x1 K5 (((x0.length : Int) - 0).toNat + 1) false 0)

def laws_eqReview (x0 : Vm.Review) (x1 : Vm.Review) : Option (Bool) :=
  bif (x0.Branch != x1.Branch) then
    (some false)
  else
    (bif (x0.Into != x1.Into) then
      (some false)
    else
      (bif (x0.By != x1.By) then
        (some false)
      else
        ((Vm.laws_eqStringS x0.Yes x1.Yes).bind fun z11 =>
        bif (!z11) then
          (some false)
        else
          (some true))))

def laws_markText_l1  (K5 : Int → Str → Option (Str)) : Nat → Int → Str → Option (Str)
  | 0, _, _ => none
  | m + 1, y2, y3 =>
    bif decide ((0 : Int) < (y2 : Int)) then
      ((saM (([(by8 (w64 (48 + (Int.tmod y2 10))))] : List Byte) : Str) y3).bind fun q11 =>
      laws_markText_l1 K5 m (w64 (Int.tdiv y2 10)) q11)
    else
      (K5 y2 y3)

def laws_markText (x0 : Int) : Option (Str) :=
  bif decide ((x0 : Int) ≤ (0 : Int)) then
    (some ([109, 48] : Str))
  else
    (jn (fun (y2 : Int) (y3 : Str) =>
      (saM ([109] : Str) y3).bind fun q13 =>
      some q13) fun K5 =>
    laws_markText_l1 K5 ((x0 - 0).toNat + 1) x0 ([] : Str))

def laws_markStringS_l1  (K6 : Int → Int → List Str → Option (Int × (List Str))) : Nat → Int → Int → List Str → Option (Int × (List Str))
  | 0, _, _, _ => none
  | m + 1, y1, y2, y3 =>
    bif decide ((y2 : Int) < ((y3.length : Int) : Int)) then
      ((Vm.laws_markText y1).bind fun z10 =>
      (gi y3 y2).bind fun u15 =>
      (siM y3 y2 z10).bind fun q18 =>
      laws_markStringS_l1 K6 m (w64 (y1 + 1)) (w64 (y2 + 1)) q18)
    else
      (K6 y1 y2 y3)

def laws_markStringS (x0 : List Str) (x1 : Int) : Option (Int × (List Str)) :=
  jn (fun (y1 : Int) (y2 : Int) (y3 : List Str) =>
    some (y1, y3)) fun K6 =>
  laws_markStringS_l1 K6 (((x0.length : Int) - 0).toNat + 1) x1 0 x0

def laws_markReview (x0 : Vm.Review) (x1 : Int) : Option (Int × Vm.Review) :=
  (Vm.laws_markStringS x0.Yes x1).bind fun z4 =>
  some (z4.1, Vm.Review.mk x0.Branch x0.Into x0.By z4.2)

def laws_heldStringS_l1 (x0 : List Str) (K5 : Int → Int → Int → Option (Int)) : Nat → Int → Int → Int → Option (Int)
  | 0, _, _, _ => none
  | m + 1, y1, y2, y3 =>
    bif decide ((y3 : Int) < ((x0.length : Int) : Int)) then
      ((gi x0 y3).bind fun u12 =>
      (Vm.laws_markText y1).bind fun z15 =>
      bif (u12 != z15) then
        (some (-1))
      else
        (laws_heldStringS_l1 x0 K5 m (w64 (y1 + 1)) y2 (w64 (y3 + 1))))
    else
      (K5 y1 y2 y3)

def laws_heldStringS (x0 : List Str) (x1 : Int) : Option (Int) :=
  jn (fun (y1 : Int) (y2 : Int) (y3 : Int) =>
    some y1) fun K5 =>
  laws_heldStringS_l1 x0 K5 (((x0.length : Int) - 0).toNat + 1) x1 0 0

def laws_heldReview (x0 : Vm.Review) (x1 : Int) : Option (Int) :=
  (Vm.laws_heldStringS x0.Yes x1).bind fun z4 =>
  bif decide ((z4 : Int) < (0 : Int)) then
    (some (-1))
  else
    (some z4)

def laws_FnExactReviewYes (x0 : Vm.Review) (x1 : Str) : Option (Bool) :=
  bif decide ((1048576 : Int) < ((x1.length : Int) : Int)) then
    (some true)
  else
    ((Vm.laws_szReview x0 1048576).bind fun z5 =>
    bif decide ((z5 : Int) < (0 : Int)) then
      (some true)
    else
      ((Vm.laws_toReview x0).bind fun z12 =>
      (Vm.spec_ReviewYes (Vm.Review.mk z12.Branch z12.Into z12.By z12.Yes) x1).bind fun z17 =>
      (Vm.laws_toReview x0).bind fun z33 =>
      (Vm.impl_ReviewYes (Vm.Review.mk z33.Branch z33.Into z33.By z33.Yes) x1).bind fun z52 =>
      jn (fun (y77 : Bool) =>
        bif y77 then
          (some false)
        else
          ((Vm.laws_toReview x0).bind fun z99 =>
          (Vm.laws_eqReview (Vm.Review.mk z33.Branch z33.Into z33.By z33.Yes) (Vm.Review.mk z99.Branch z99.Into z99.By z99.Yes)).bind fun z110 =>
          bif (!z110) then
            (some false)
          else
            ((Vm.laws_markReview (Vm.Review.mk z33.Branch z33.Into z33.By z33.Yes) 1).bind fun z123 =>
            jn (fun (y134 : Bool) =>
              bif y134 then
                (some false)
              else
                ((Vm.laws_markReview (Vm.Review.mk z52.1.Branch z52.1.Into z52.1.By z52.1.Yes) 1).bind fun z147 =>
                (Vm.laws_heldReview (Vm.Review.mk z52.1.Branch z52.1.Into z52.1.By z147.2.Yes) 1).bind fun z158 =>
                bif decide ((z158 : Int) < (0 : Int)) then
                  (some false)
                else
                  (bif ((z158 : Int) != (z147.1 : Int)) then
                    (some false)
                  else
                    ((Vm.laws_toReview x0).bind fun z173 =>
                    (Vm.impl_ReviewYes (Vm.Review.mk z173.Branch z173.Into z173.By z173.Yes) x1).bind fun z185 =>
                    jn (fun (y222 : Bool) =>
                      bif y222 then
                        (some false)
                      else
                        ((Vm.laws_heldReview (Vm.Review.mk z52.1.Branch z52.1.Into z52.1.By z147.2.Yes) 1).bind fun z238 =>
                        bif decide ((z238 : Int) < (0 : Int)) then
                          (some false)
                        else
                          (bif ((z238 : Int) != (z147.1 : Int)) then
                            (some false)
                          else
                            (some true)))) fun K224 =>
                    (Vm.laws_eqReview (Vm.Review.mk z185.1.Branch z185.1.Into z185.1.By z185.1.Yes) z17.1).bind fun z256 =>
                    bif (!z256) then
                      (K224 true)
                    else
                      (K224 (z185.2 != z17.2)))))) fun K136 =>
            bif decide ((z123.1 : Int) < (0 : Int)) then
              (K136 true)
            else
              ((Vm.laws_eqReview (Vm.Review.mk z52.1.Branch z52.1.Into z52.1.By z52.1.Yes) z17.1).bind fun z274 =>
              bif (!z274) then
                (K136 true)
              else
                (K136 (z52.2 != z17.2)))))) fun K79 =>
      (Vm.laws_eqReview (Vm.Review.mk z52.1.Branch z52.1.Into z52.1.By z52.1.Yes) z17.1).bind fun z288 =>
      bif (!z288) then
        (K79 true)
      else
        (K79 (z52.2 != z17.2))))

end Go.Vm
