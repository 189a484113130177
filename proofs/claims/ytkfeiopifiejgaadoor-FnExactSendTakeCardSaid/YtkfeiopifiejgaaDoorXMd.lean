/- Models of the functions: plain Lean, printed by a program of ours. Conditions: none. -/
import Derived.Test.YtkfeiopifiejgaaDoorXLw
import Derived.Lib.SplitLaws
import Derived.Lib.IndexMore
import Derived.Lib.Join
import Derived.Lib.ItoaNum
namespace Go.Vm
open Go Go.Sx
set_option linter.unusedVariables false
set_option linter.unusedSimpArgs false

def laws_szIntS (x0 : List Int) (x1 : Int) : Option (Int) :=
  bif decide ((w64 (x1 - (x0.length : Int)) : Int) < (0 : Int)) then
    (some (-1))
  else
    (some (w64 (x1 - (x0.length : Int))))

def laws_szStringS_l1 (x0 : List Str) (K6 : Int → Int → Int → Option (Int)) : Nat → Int → Int → Int → Option (Int)
  | 0, _, _, _ => none
  | m + 1, y2, y3, y4 =>
    bif decide ((y4 : Int) < ((x0.length : Int) : Int)) then
      ((gi x0 y4).bind fun u11 =>
      bif decide ((w64 (y2 - (u11.length : Int)) : Int) < (0 : Int)) then
        (some (-1))
      else
        (laws_szStringS_l1 x0 K6 m (w64 (y2 - (u11.length : Int))) y3 (w64 (y4 + 1))))
    else
      (K6 y2 y3 y4)

def laws_szStringS (x0 : List Str) (x1 : Int) : Option (Int) :=
  bif decide ((w64 (x1 - (x0.length : Int)) : Int) < (0 : Int)) then
    (some (-1))
  else
    (jn (fun (y2 : Int) (y3 : Int) (y4 : Int) =>
      some y2) fun K6 =>
    laws_szStringS_l1 x0 K6 (((x0.length : Int) - 0).toNat + 1) (w64 (x1 - (x0.length : Int))) 0 0)

def laws_szFile (x0 : Vm.File) (x1 : Int) : Option (Int) :=
  bif decide ((w64 (x1 - (x0.Path.length : Int)) : Int) < (0 : Int)) then
    (some (-1))
  else
    ((Vm.laws_szStringS x0.Text (w64 (x1 - (x0.Path.length : Int)))).bind fun z5 =>
    bif decide ((z5 : Int) < (0 : Int)) then
      (some (-1))
    else
      (some z5))

def laws_szFileS_l1 (x0 : List Vm.File) (K6 : Int → Int → Int → Option (Int)) : Nat → Int → Int → Int → Option (Int)
  | 0, _, _, _ => none
  | m + 1, y2, y3, y4 =>
    bif decide ((y4 : Int) < ((x0.length : Int) : Int)) then
      ((gi x0 y4).bind fun u11 =>
      (Vm.laws_szFile u11 y2).bind fun z18 =>
      bif decide ((z18 : Int) < (0 : Int)) then
        (some (-1))
      else
        (laws_szFileS_l1 x0 K6 m z18 y3 (w64 (y4 + 1))))
    else
      (K6 y2 y3 y4)

def laws_szFileS (x0 : List Vm.File) (x1 : Int) : Option (Int) :=
  bif decide ((w64 (x1 - (x0.length : Int)) : Int) < (0 : Int)) then
    (some (-1))
  else
    (jn (fun (y2 : Int) (y3 : Int) (y4 : Int) =>
      some y2) fun K6 =>
    laws_szFileS_l1 x0 K6 (((x0.length : Int) - 0).toNat + 1) (w64 (x1 - (x0.length : Int))) 0 0)

def laws_szCommit (x0 : Vm.Commit) (x1 : Int) : Option (Int) :=
  (Vm.laws_szIntS x0.Parents x1).bind fun z4 =>
  bif decide ((z4 : Int) < (0 : Int)) then
    (some (-1))
  else
    (bif decide ((w64 (z4 - (x0.Who.length : Int)) : Int) < (0 : Int)) then
      (some (-1))
    else
      ((Vm.laws_szFileS x0.Tree (w64 (z4 - (x0.Who.length : Int)))).bind fun z12 =>
      bif decide ((z12 : Int) < (0 : Int)) then
        (some (-1))
      else
        (some z12)))

def laws_szCommitS_l1 (x0 : List Vm.Commit) (K6 : Int → Int → Int → Option (Int)) : Nat → Int → Int → Int → Option (Int)
  | 0, _, _, _ => none
  | m + 1, y2, y3, y4 =>
    bif decide ((y4 : Int) < ((x0.length : Int) : Int)) then
      ((gi x0 y4).bind fun u11 =>
      (Vm.laws_szCommit u11 y2).bind fun z20 =>
      bif decide ((z20 : Int) < (0 : Int)) then
        (some (-1))
      else
        (laws_szCommitS_l1 x0 K6 m z20 y3 (w64 (y4 + 1))))
    else
      (K6 y2 y3 y4)

def laws_szCommitS (x0 : List Vm.Commit) (x1 : Int) : Option (Int) :=
  bif decide ((w64 (x1 - (x0.length : Int)) : Int) < (0 : Int)) then
    (some (-1))
  else
    (jn (fun (y2 : Int) (y3 : Int) (y4 : Int) =>
      some y2) fun K6 =>
    laws_szCommitS_l1 x0 K6 (((x0.length : Int) - 0).toNat + 1) (w64 (x1 - (x0.length : Int))) 0 0)

def laws_szHead (x0 : Vm.Head) (x1 : Int) : Option (Int) :=
  bif decide ((w64 (x1 - (x0.Name.length : Int)) : Int) < (0 : Int)) then
    (some (-1))
  else
    (some (w64 (x1 - (x0.Name.length : Int))))

def laws_szHeadS_l1 (x0 : List Vm.Head) (K6 : Int → Int → Int → Option (Int)) : Nat → Int → Int → Int → Option (Int)
  | 0, _, _, _ => none
  | m + 1, y2, y3, y4 =>
    bif decide ((y4 : Int) < ((x0.length : Int) : Int)) then
      ((gi x0 y4).bind fun u11 =>
      (Vm.laws_szHead u11 y2).bind fun z16 =>
      bif decide ((z16 : Int) < (0 : Int)) then
        (some (-1))
      else
        (laws_szHeadS_l1 x0 K6 m z16 y3 (w64 (y4 + 1))))
    else
      (K6 y2 y3 y4)

def laws_szHeadS (x0 : List Vm.Head) (x1 : Int) : Option (Int) :=
  bif decide ((w64 (x1 - (x0.length : Int)) : Int) < (0 : Int)) then
    (some (-1))
  else
    (jn (fun (y2 : Int) (y3 : Int) (y4 : Int) =>
      some y2) fun K6 =>
    laws_szHeadS_l1 x0 K6 (((x0.length : Int) - 0).toNat + 1) (w64 (x1 - (x0.length : Int))) 0 0)

def laws_szRepo (x0 : Vm.Repo) (x1 : Int) : Option (Int) :=
  (Vm.laws_szCommitS x0.Commits x1).bind fun z4 =>
  bif decide ((z4 : Int) < (0 : Int)) then
    (some (-1))
  else
    ((Vm.laws_szHeadS x0.Heads z4).bind fun z11 =>
    bif decide ((z11 : Int) < (0 : Int)) then
      (some (-1))
    else
      (some z11))

def laws_toIntS_l1 (x0 : List Int) (K9 : Int → List Int → Option ((List Int))) : Nat → Int → List Int → Option ((List Int))
  | 0, _, _ => none
  | m + 1, y5, y6 =>
    bif decide ((y5 : Int) < ((x0.length : Int) : Int)) then
      ((gi x0 y5).bind fun u14 =>
      (gi y6 y5).bind fun u16 =>
      (siM y6 y5 u14).bind fun q19 =>
      laws_toIntS_l1 x0 K9 m (w64 (y5 + 1)) q19)
    else
      (K9 y5 y6)

def laws_toIntS (x0 : List Int) : Option ((List Int)) :=
  (mkM (x0.length : Int) (0 : Int)).bind fun q1 =>
  jn (fun (y5 : Int) (y6 : List Int) =>
    some y6) fun K9 =>
  laws_toIntS_l1 x0 K9 (((x0.length : Int) - 0).toNat + 1) 0 q1

def laws_toStringS_l1 (x0 : List Str) (K9 : Int → List Str → Option ((List Str))) : Nat → Int → List Str → Option ((List Str))
  | 0, _, _ => none
  | m + 1, y5, y6 =>
    bif decide ((y5 : Int) < ((x0.length : Int) : Int)) then
      ((gi x0 y5).bind fun u14 =>
      (gi y6 y5).bind fun u16 =>
      (siM y6 y5 u14).bind fun q19 =>
      laws_toStringS_l1 x0 K9 m (w64 (y5 + 1)) q19)
    else
      (K9 y5 y6)

def laws_toStringS (x0 : List Str) : Option ((List Str)) :=
  (mkM (x0.length : Int) (([] : Str) : Str)).bind fun q1 =>
  jn (fun (y5 : Int) (y6 : List Str) =>
    some y6) fun K9 =>
  laws_toStringS_l1 x0 K9 (((x0.length : Int) - 0).toNat + 1) 0 q1

def laws_toFile (x0 : Vm.File) : Option (Vm.File) :=
  (Vm.laws_toStringS x0.Text).bind fun z15 =>
  some (Vm.File.mk x0.Path z15)

def laws_toFileS_l1 (x0 : List Vm.File) (K9 : Int → List Vm.File → Option ((List Vm.File))) : Nat → Int → List Vm.File → Option ((List Vm.File))
  | 0, _, _ => none
  | m + 1, y5, y6 =>
    bif decide ((y5 : Int) < ((x0.length : Int) : Int)) then
      ((gi x0 y5).bind fun u14 =>
      (Vm.laws_toFile u14).bind fun z21 =>
      (gi y6 y5).bind fun u26 =>
      (siM y6 y5 (Vm.File.mk z21.Path z21.Text)).bind fun q29 =>
      laws_toFileS_l1 x0 K9 m (w64 (y5 + 1)) q29)
    else
      (K9 y5 y6)

def laws_toFileS (x0 : List Vm.File) : Option ((List Vm.File)) :=
  (mkM (x0.length : Int) (Vm.File.mk ([] : Str) ([] : List Str) : File)).bind fun q1 =>
  jn (fun (y5 : Int) (y6 : List Vm.File) =>
    some y6) fun K9 =>
  laws_toFileS_l1 x0 K9 (((x0.length : Int) - 0).toNat + 1) 0 q1

def laws_toCommit (x0 : Vm.Commit) : Option (Vm.Commit) :=
  (Vm.laws_toIntS x0.Parents).bind fun z11 =>
  (Vm.laws_toFileS x0.Tree).bind fun z29 =>
  some (Vm.Commit.mk z11 x0.Who z29)

def laws_toCommitS_l1 (x0 : List Vm.Commit) (K9 : Int → List Vm.Commit → Option ((List Vm.Commit))) : Nat → Int → List Vm.Commit → Option ((List Vm.Commit))
  | 0, _, _ => none
  | m + 1, y5, y6 =>
    bif decide ((y5 : Int) < ((x0.length : Int) : Int)) then
      ((gi x0 y5).bind fun u14 =>
      (Vm.laws_toCommit u14).bind fun z23 =>
      (gi y6 y5).bind fun u28 =>
      (siM y6 y5 (Vm.Commit.mk z23.Parents z23.Who z23.Tree)).bind fun q31 =>
      laws_toCommitS_l1 x0 K9 m (w64 (y5 + 1)) q31)
    else
      (K9 y5 y6)

def laws_toCommitS (x0 : List Vm.Commit) : Option ((List Vm.Commit)) :=
  (mkM (x0.length : Int) (Vm.Commit.mk ([] : List Int) ([] : Str) ([] : List File) : Commit)).bind fun q1 =>
  jn (fun (y5 : Int) (y6 : List Vm.Commit) =>
    some y6) fun K9 =>
  laws_toCommitS_l1 x0 K9 (((x0.length : Int) - 0).toNat + 1) 0 q1

def laws_toHead (x0 : Vm.Head) : Option (Vm.Head) :=
  some (Vm.Head.mk x0.Name x0.At)

def laws_toHeadS_l1 (x0 : List Vm.Head) (K9 : Int → List Vm.Head → Option ((List Vm.Head))) : Nat → Int → List Vm.Head → Option ((List Vm.Head))
  | 0, _, _ => none
  | m + 1, y5, y6 =>
    bif decide ((y5 : Int) < ((x0.length : Int) : Int)) then
      ((gi x0 y5).bind fun u14 =>
      (Vm.laws_toHead u14).bind fun z19 =>
      (gi y6 y5).bind fun u24 =>
      (siM y6 y5 z19).bind fun q27 =>
      laws_toHeadS_l1 x0 K9 m (w64 (y5 + 1)) q27)
    else
      (K9 y5 y6)

def laws_toHeadS (x0 : List Vm.Head) : Option ((List Vm.Head)) :=
  (mkM (x0.length : Int) (Vm.Head.mk ([] : Str) 0 : Head)).bind fun q1 =>
  jn (fun (y5 : Int) (y6 : List Vm.Head) =>
    some y6) fun K9 =>
  laws_toHeadS_l1 x0 K9 (((x0.length : Int) - 0).toNat + 1) 0 q1

def laws_toRepo (x0 : Vm.Repo) : Option (Vm.Repo) :=
  (Vm.laws_toCommitS x0.Commits).bind fun z11 =>
  (Vm.laws_toHeadS x0.Heads).bind fun z24 =>
  some (Vm.Repo.mk z11 z24)

def spec_l1In (x0 : Int) (x1 : Int) (x2 : Int) : Option (Bool) :=
  jn (fun (y1 : Bool) =>
    some y1) fun K3 =>
  bif decide ((x1 : Int) ≤ (x0 : Int)) then
    (K3 (decide ((x0 : Int) ≤ (x2 : Int))))
  else
    (K3 false)

def spec_l4Name_l1 (x0 : Str) (K4 : Bool → Int → Option (Bool)) : Nat → Bool → Int → Option (Bool)
  | 0, _, _ => none
  | m + 1, y1, y2 =>
    bif decide ((y2 : Int) < ((x0.length : Int) : Int)) then
      (jn (fun (y8 : Bool) =>
        bif y8 then
          (some false)
        else
          (spec_l4Name_l1 x0 K4 m y1 (w64 (y2 + 1)))) fun K10 =>
      (chM x0 y2).bind fun u13 =>
      bif decide (((UInt8.toNat u13 : Int) : Int) < (97 : Int)) then
        ((chM x0 y2).bind fun u16 =>
        bif decide (((UInt8.toNat u16 : Int) : Int) < (48 : Int)) then
          (K10 true)
        else
          ((chM x0 y2).bind fun u19 =>
          K10 (decide ((57 : Int) < ((UInt8.toNat u19 : Int) : Int)))))
      else
        ((chM x0 y2).bind fun u21 =>
        bif decide ((122 : Int) < ((UInt8.toNat u21 : Int) : Int)) then
          ((chM x0 y2).bind fun u24 =>
          bif decide (((UInt8.toNat u24 : Int) : Int) < (48 : Int)) then
            (K10 true)
          else
            ((chM x0 y2).bind fun u27 =>
            K10 (decide ((57 : Int) < ((UInt8.toNat u27 : Int) : Int)))))
        else
          (K10 false)))
    else
      (K4 y1 y2)

def spec_l4Name (x0 : Str) : Option (Bool) :=
  jn (fun (y1 : Bool) (y2 : Int) =>
    (Vm.spec_l1In (x0.length : Int) 1 6).bind fun z29 =>
    some z29) fun K4 =>
  spec_l4Name_l1 x0 K4 (((x0.length : Int) - 0).toNat + 1) false 0

def spec_l1Cut_l1 (x0 : Str) (x1 : Byte) (x2 : Int) (K9 : List Str → Int → Int → Option ((List Str))) : Nat → List Str → Int → Int → Option ((List Str))
  | 0, _, _, _ => none
  | m + 1, y3, y6, y7 =>
    jn (fun (y12 : Bool) =>
      bif y12 then
        (jn (fun (y18 : List Str) (y21 : Int) =>
          spec_l1Cut_l1 x0 x1 x2 K9 m y18 y21 (w64 (y7 + 1))) fun K23 =>
        (chM x0 y7).bind fun u25 =>
        bif (((UInt8.toNat u25 : Int) : Int) == ((UInt8.toNat x1 : Int) : Int)) then
          ((slM x0 y6 y7).bind fun q28 =>
          (apM y3 [q28]).bind fun q33 =>
          K23 q33 (w64 (y7 + 1)))
        else
          (K23 y3 y6))
      else
        (K9 y3 y6 y7)) fun K14 =>
    bif decide ((y7 : Int) < ((x0.length : Int) : Int)) then
      (K14 (decide (((y3.length : Int) : Int) < (x2 : Int))))
    else
      (K14 false)

def spec_l1Cut (x0 : Str) (x1 : Byte) (x2 : Int) : Option ((List Str)) :=
  jn (fun (y3 : List Str) (y6 : Int) (y7 : Int) =>
    (slM x0 y6 (x0.length : Int)).bind fun q38 =>
    (apM y3 [q38]).bind fun q43 =>
    some q43) fun K9 =>
  spec_l1Cut_l1 x0 x1 x2 K9 (x0.length + 1) ([] : List Str) 0 0

def spec_l4Path_l1 (z1 : (List Str)) (K8 : Bool → Int → Option (Bool)) : Nat → Bool → Int → Option (Bool)
  | 0, _, _ => none
  | m + 1, y5, y6 =>
    bif decide ((y6 : Int) < ((z1.length : Int) : Int)) then
      ((gi z1 y6).bind fun u13 =>
      (Vm.spec_l4Name u13).bind fun z15 =>
      bif (!z15) then
        (some false)
      else
        (spec_l4Path_l1 z1 K8 m y5 (w64 (y6 + 1))))
    else
      (K8 y5 y6)

def spec_l4Path (x0 : Str) : Option (Bool) :=
  (Vm.spec_l1Cut x0 (UInt8.ofNatLT 47 (by decide) : Byte) 3).bind fun z1 =>
  jn (fun (y5 : Bool) (y6 : Int) =>
    some (decide (((z1.length : Int) : Int) ≤ (3 : Int)))) fun K8 =>
  spec_l4Path_l1 z1 K8 (((z1.length : Int) - 0).toNat + 1) false 0

def spec_l1Line_l1 (x0 : Str) (K4 : Bool → Int → Option (Bool)) : Nat → Bool → Int → Option (Bool)
  | 0, _, _ => none
  | m + 1, y1, y2 =>
    bif decide ((y2 : Int) < ((x0.length : Int) : Int)) then
      (jn (fun (y8 : Bool) =>
        bif y8 then
          (some false)
        else
          (spec_l1Line_l1 x0 K4 m y1 (w64 (y2 + 1)))) fun K10 =>
      (chM x0 y2).bind fun u13 =>
      bif decide (((UInt8.toNat u13 : Int) : Int) < (32 : Int)) then
        (K10 true)
      else
        ((chM x0 y2).bind fun u16 =>
        K10 (decide ((126 : Int) < ((UInt8.toNat u16 : Int) : Int)))))
    else
      (K4 y1 y2)

def spec_l1Line (x0 : Str) : Option (Bool) :=
  jn (fun (y1 : Bool) (y2 : Int) =>
    some (decide (((x0.length : Int) : Int) ≤ (12 : Int)))) fun K4 =>
  spec_l1Line_l1 x0 K4 (((x0.length : Int) - 0).toNat + 1) false 0

def spec_l1Ok_l1 (x0 : List Str) (K4 : Bool → Int → Option (Bool)) : Nat → Bool → Int → Option (Bool)
  | 0, _, _ => none
  | m + 1, y1, y2 =>
    bif decide ((y2 : Int) < ((x0.length : Int) : Int)) then
      ((gi x0 y2).bind fun u9 =>
      (Vm.spec_l1Line u9).bind fun z11 =>
      bif (!z11) then
        (some false)
      else
        (spec_l1Ok_l1 x0 K4 m y1 (w64 (y2 + 1))))
    else
      (K4 y1 y2)

def spec_l1Ok (x0 : List Str) : Option (Bool) :=
  jn (fun (y1 : Bool) (y2 : Int) =>
    some (decide (((x0.length : Int) : Int) ≤ (10 : Int)))) fun K4 =>
  spec_l1Ok_l1 x0 K4 (((x0.length : Int) - 0).toNat + 1) false 0

def spec_l4In (x0 : Str) (x1 : Str) : Option (Bool) :=
  jn (fun (y1 : Bool) =>
    some y1) fun K3 =>
  bif decide (((x0.length : Int) : Int) < ((x1.length : Int) : Int)) then
    ((slM x1 0 (x0.length : Int)).bind fun q6 =>
    bif (q6 == x0) then
      ((chM x1 (x0.length : Int)).bind fun u9 =>
      K3 (((UInt8.toNat u9 : Int) : Int) == (47 : Int)))
    else
      (K3 false))
  else
    (K3 false)

def spec_l4Ok_l2 (x0 : List Vm.File) (y2 : Int) (K18 : Bool → Int → Option (Bool)) : Nat → Bool → Int → Option (Bool)
  | 0, _, _ => none
  | m + 1, y15, y16 =>
    bif decide ((y16 : Int) < ((x0.length : Int) : Int)) then
      ((gi x0 y2).bind fun u25 =>
      (gi x0 y16).bind fun u28 =>
      (Vm.spec_l4In u25.Path u28.Path).bind fun z30 =>
      bif z30 then
        (some false)
      else
        (spec_l4Ok_l2 x0 y2 K18 m y15 (w64 (y16 + 1))))
    else
      (K18 y15 y16)

def spec_l4Ok_l1 (x0 : List Vm.File) (K5 : Bool → Int → Option (Bool)) : Nat → Bool → Int → Option (Bool)
  | 0, _, _ => none
  | m + 1, y1, y2 =>
    bif decide ((y2 : Int) < ((x0.length : Int) : Int)) then
      (jn (fun (y10 : Bool) =>
        bif y10 then
          (some false)
        else
          (jn (fun (y15 : Bool) (y16 : Int) =>
            spec_l4Ok_l1 x0 K5 m y15 (w64 (y2 + 1))) fun K18 =>
          spec_l4Ok_l2 x0 y2 K18 (((x0.length : Int) - 0).toNat + 1) y1 0)) fun K12 =>
      (gi x0 y2).bind fun u37 =>
      (Vm.spec_l4Path u37.Path).bind fun z40 =>
      bif (!z40) then
        (K12 true)
      else
        ((gi x0 y2).bind fun u45 =>
        (Vm.spec_l1Ok u45.Text).bind fun z51 =>
        bif (!z51) then
          (K12 true)
        else
          (bif decide ((0 : Int) < (y2 : Int)) then
            ((gi x0 y2).bind fun u57 =>
            (gi x0 (w64 (y2 - 1))).bind fun u59 =>
            K12 (Op.bytesLess u57.Path u59.Path || u57.Path == u59.Path))
          else
            (K12 false))))
    else
      (K5 y1 y2)

def spec_l4Ok (x0 : List Vm.File) : Option (Bool) :=
  jn (fun (y1 : Bool) (y2 : Int) =>
    some (decide (((x0.length : Int) : Int) ≤ (8 : Int)))) fun K5 =>
  spec_l4Ok_l1 x0 K5 (((x0.length : Int) - 0).toNat + 1) false 0

def spec_l7Ok_l2 (y4 : Int) (u14 : Vm.Commit) (K32 : Bool → Int → Option (Bool)) : Nat → Bool → Int → Option (Bool)
  | 0, _, _ => none
  | m + 1, y29, y30 =>
    bif decide ((y30 : Int) < ((u14.Parents.length : Int) : Int)) then
      (jn (fun (y39 : Bool) =>
        bif y39 then
          (some false)
        else
          (spec_l7Ok_l2 y4 u14 K32 m y29 (w64 (y30 + 1)))) fun K41 =>
      (gi u14.Parents y30).bind fun u50 =>
      (Vm.spec_l1In u50 0 (w64 (y4 - 1))).bind fun z53 =>
      bif (!z53) then
        (K41 true)
      else
        (bif decide ((0 : Int) < (y30 : Int)) then
          ((gi u14.Parents y30).bind fun u61 =>
          (gi u14.Parents 0).bind fun u63 =>
          K41 ((u61 : Int) == (u63 : Int)))
        else
          (K41 false)))
    else
      (K32 y29 y30)

def spec_l7Ok_l3 (x0 : Vm.Repo) (K90 : Bool → Int → Option (Bool)) : Nat → Bool → Int → Option (Bool)
  | 0, _, _ => none
  | m + 1, y87, y88 =>
    bif decide ((y88 : Int) < ((x0.Heads.length : Int) : Int)) then
      (jn (fun (y96 : Bool) =>
        bif y96 then
          (some false)
        else
          (spec_l7Ok_l3 x0 K90 m y87 (w64 (y88 + 1)))) fun K98 =>
      (gi x0.Heads y88).bind fun u105 =>
      (Vm.spec_l4Name u105.Name).bind fun z108 =>
      bif (!z108) then
        (K98 true)
      else
        ((gi x0.Heads y88).bind fun u114 =>
        (Vm.spec_l1In u114.At 0 (w64 ((x0.Commits.length : Int) - 1))).bind fun z117 =>
        bif (!z117) then
          (K98 true)
        else
          (bif decide ((0 : Int) < (y88 : Int)) then
            ((gi x0.Heads y88).bind fun u124 =>
            (gi x0.Heads (w64 (y88 - 1))).bind fun u126 =>
            K98 (Op.bytesLess u124.Name u126.Name || u124.Name == u126.Name))
          else
            (K98 false))))
    else
      (K90 y87 y88)

def spec_l7Ok_l1 (x0 : Vm.Repo) (K8 : Bool → Int → Option (Bool)) : Nat → Bool → Int → Option (Bool)
  | 0, _, _ => none
  | m + 1, y3, y4 =>
    bif decide ((y4 : Int) < ((x0.Commits.length : Int) : Int)) then
      ((gi x0.Commits y4).bind fun u14 =>
      jn (fun (y29 : Bool) (y30 : Int) =>
        jn (fun (y65 : Bool) =>
          bif y65 then
            (some false)
          else
            (spec_l7Ok_l1 x0 K8 m y29 (w64 (y4 + 1)))) fun K67 =>
        bif decide ((2 : Int) < ((u14.Parents.length : Int) : Int)) then
          (K67 true)
        else
          ((Vm.spec_l4Name u14.Who).bind fun z73 =>
          bif (!z73) then
            (K67 true)
          else
            ((Vm.spec_l4Ok u14.Tree).bind fun z81 =>
            K67 (!z81)))) fun K32 =>
      spec_l7Ok_l2 y4 u14 K32 (((u14.Parents.length : Int) - 0).toNat + 1) y3 0)
    else
      (K8 y3 y4)

def spec_l7Ok (x0 : Vm.Repo) : Option (Bool) :=
  jn (fun (y3 : Bool) (y4 : Int) =>
    jn (fun (y87 : Bool) (y88 : Int) =>
      jn (fun (y128 : Bool) =>
        some y128) fun K130 =>
      bif decide (((x0.Commits.length : Int) : Int) ≤ (16 : Int)) then
        (K130 (decide (((x0.Heads.length : Int) : Int) ≤ (5 : Int))))
      else
        (K130 false)) fun K90 =>
    spec_l7Ok_l3 x0 K90 (((x0.Heads.length : Int) - 0).toNat + 1) y3 0) fun K8 =>
  spec_l7Ok_l1 x0 K8 (((x0.Commits.length : Int) - 0).toNat + 1) false 0

def spec_l4Copy_l1 (x0 : List Vm.File) (K8 : List Vm.File → Int → Option ((List Vm.File))) : Nat → List Vm.File → Int → Option ((List Vm.File))
  | 0, _, _ => none
  | m + 1, y3, y6 =>
    bif decide ((y6 : Int) < ((x0.length : Int) : Int)) then
      ((gi x0 y6).bind fun u16 =>
      (gi x0 y6).bind fun u19 =>
      (apM ([] : List Str) u19.Text).bind fun q27 =>
      (apM y3 [Vm.File.mk u16.Path q27]).bind fun q37 =>
      spec_l4Copy_l1 x0 K8 m q37 (w64 (y6 + 1)))
    else
      (K8 y3 y6)

def spec_l4Copy (x0 : List Vm.File) : Option ((List Vm.File)) :=
  jn (fun (y3 : List Vm.File) (y6 : Int) =>
    some y3) fun K8 =>
  spec_l4Copy_l1 x0 K8 (((x0.length : Int) - 0).toNat + 1) ([] : List File) 0

def spec_l7At_l1 (x0 : Vm.Repo) (x1 : Str) (K6 : Int → Int → Option (Int)) : Nat → Int → Int → Option (Int)
  | 0, _, _ => none
  | m + 1, y3, y4 =>
    bif decide ((y4 : Int) < ((x0.Heads.length : Int) : Int)) then
      ((gi x0.Heads y4).bind fun u12 =>
      bif (u12.Name == x1) then
        ((gi x0.Heads y4).bind fun u15 =>
        some u15.At)
      else
        (spec_l7At_l1 x0 x1 K6 m y3 (w64 (y4 + 1))))
    else
      (K6 y3 y4)

def spec_l7At (x0 : Vm.Repo) (x1 : Str) : Option (Int) :=
  jn (fun (y3 : Int) (y4 : Int) =>
    some (-1)) fun K6 =>
  spec_l7At_l1 x0 x1 K6 (((x0.Heads.length : Int) - 0).toNat + 1) 0 0

def spec_l7CopyCommit (x0 : Vm.Commit) : Option (Vm.Commit) :=
  (apM ([] : List Int) x0.Parents).bind fun q14 =>
  (Vm.spec_l4Copy x0.Tree).bind fun z22 =>
  some (Vm.Commit.mk q14 x0.Who z22)

def spec_l7Copy_l1 (x0 : Vm.Repo) (K36 : Int → List Vm.Commit → List Vm.Head → Option (Vm.Repo)) : Nat → Int → List Vm.Commit → List Vm.Head → Option (Vm.Repo)
  | 0, _, _, _ => none
  | m + 1, y27, y28, y31 =>
    bif decide ((y27 : Int) < ((x0.Commits.length : Int) : Int)) then
      ((gi x0.Commits y27).bind fun u50 =>
      (Vm.spec_l7CopyCommit u50).bind fun z60 =>
      (apM y28 [Vm.Commit.mk z60.Parents z60.Who z60.Tree]).bind fun q78 =>
      spec_l7Copy_l1 x0 K36 m (w64 (y27 + 1)) q78 y31)
    else
      (K36 y27 y28 y31)

def spec_l7Copy (x0 : Vm.Repo) : Option (Vm.Repo) :=
  (apM ([] : List Head) x0.Heads).bind fun q10 =>
  jn (fun (y27 : Int) (y28 : List Vm.Commit) (y31 : List Vm.Head) =>
    some (Vm.Repo.mk y28 y31)) fun K36 =>
  spec_l7Copy_l1 x0 K36 (((x0.Commits.length : Int) - 0).toNat + 1) 0 ([] : List Commit) q10

def spec_l7Head_l1 (x0 : Vm.Repo) (x1 : Str) (x2 : Int) (K24 : Bool → Int → List Vm.Commit → List Vm.Head → Option (Vm.Repo)) : Nat → Bool → Int → List Vm.Commit → List Vm.Head → Option (Vm.Repo)
  | 0, _, _, _, _ => none
  | m + 1, y14, y15, y16, y19 =>
    bif decide ((y15 : Int) < ((x0.Heads.length : Int) : Int)) then
      (jn (fun (y32 : Bool) (y33 : List Vm.Commit) (y36 : List Vm.Head) =>
        spec_l7Head_l1 x0 x1 x2 K24 m y32 (w64 (y15 + 1)) y33 y36) fun K41 =>
      jn (fun (y45 : Bool) (y46 : List Vm.Commit) (y49 : List Vm.Head) =>
        (gi x0.Heads y15).bind fun u58 =>
        bif (u58.Name != x1) then
          ((gi x0.Heads y15).bind fun u68 =>
          (apM y49 [u68]).bind fun q80 =>
          K41 y45 y46 q80)
        else
          (K41 y45 y46 y49)) fun K54 =>
      jn (fun (y95 : Bool) =>
        bif y95 then
          ((apM y19 [Vm.Head.mk x1 x2]).bind fun q110 =>
          K54 true y16 q110)
        else
          (K54 y14 y16 y19)) fun K97 =>
      bif (!y14) then
        ((gi x0.Heads y15).bind fun u127 =>
        K97 (!Op.bytesLess u127.Name x1))
      else
        (K97 false))
    else
      (K24 y14 y15 y16 y19)

def spec_l7Head (x0 : Vm.Repo) (x1 : Str) (x2 : Int) : Option (Vm.Repo) :=
  jn (fun (y14 : Bool) (y15 : Int) (y16 : List Vm.Commit) (y19 : List Vm.Head) =>
    jn (fun (y129 : List Vm.Commit) (y132 : List Vm.Head) =>
      some (Vm.Repo.mk y129 y132)) fun K137 =>
    bif (!y14) then
      ((apM y19 [Vm.Head.mk x1 x2]).bind fun q160 =>
      K137 y16 q160)
    else
      (K137 y16 y19)) fun K24 =>
  spec_l7Head_l1 x0 x1 x2 K24 (((x0.Heads.length : Int) - 0).toNat + 1) false 0 x0.Commits ([] : List Head)

def spec_l7Add (x0 : Vm.Repo) (x1 : Str) (x2 : Vm.Commit) : Option (Vm.Repo) :=
  (apM ([] : List Commit) x0.Commits).bind fun q26 =>
  (apM q26 [x2]).bind fun q41 =>
  (Vm.spec_l7Head (Vm.Repo.mk q41 x0.Heads) x1 (x0.Commits.length : Int)).bind fun z185 =>
  some z185

def spec_RepoCommit (x0 : Vm.Repo) (x1 : Str) (x2 : Str) (x3 : List Vm.File) : Option (Vm.Repo × Bool) :=
  (Vm.spec_l7Ok x0).bind fun z8 =>
  bif (!z8) then
    (some (Vm.Repo.mk ([] : List Commit) ([] : List Head), false))
  else
    ((Vm.spec_l4Copy x3).bind fun z19 =>
    jn (fun (y35 : List Int) (y38 : Str) (y39 : List Vm.File) =>
      (Vm.spec_l7Copy x0).bind fun z57 =>
      (Vm.spec_l7Add (Vm.Repo.mk z57.Commits z57.Heads) x1 (Vm.Commit.mk y35 y38 y39)).bind fun z66 =>
      (Vm.spec_l7Ok z66).bind fun z204 =>
      bif (!z204) then
        ((Vm.spec_l7Copy x0).bind fun z219 =>
        some (Vm.Repo.mk z219.Commits z219.Heads, false))
      else
        (some (z66, true))) fun K44 =>
    (Vm.spec_l7At x0 x1).bind fun z321 =>
    bif decide ((0 : Int) ≤ (z321 : Int)) then
      ((Vm.spec_l7At x0 x1).bind fun z332 =>
      K44 ([z332] : List Int) x2 z19)
    else
      (K44 ([] : List Int) x2 z19))

def impl_within (x0 : Int) (x1 : Int) (x2 : Int) : Option (Bool) :=
  jn (fun (y1 : Bool) =>
    some y1) fun K3 =>
  bif decide ((x1 : Int) ≤ (x0 : Int)) then
    (K3 (decide ((x0 : Int) ≤ (x2 : Int))))
  else
    (K3 false)

def impl_wordByte (x0 : Byte) : Option (Bool) :=
  jn (fun (y1 : Bool) =>
    some y1) fun K3 =>
  bif decide ((97 : Int) ≤ ((UInt8.toNat x0 : Int) : Int)) then
    (bif decide (((UInt8.toNat x0 : Int) : Int) ≤ (122 : Int)) then
      (K3 true)
    else
      (bif decide ((48 : Int) ≤ ((UInt8.toNat x0 : Int) : Int)) then
        (K3 (decide (((UInt8.toNat x0 : Int) : Int) ≤ (57 : Int))))
      else
        (K3 false)))
  else
    (bif decide ((48 : Int) ≤ ((UInt8.toNat x0 : Int) : Int)) then
      (K3 (decide (((UInt8.toNat x0 : Int) : Int) ≤ (57 : Int))))
    else
      (K3 false))

def impl_nameOk_l1 (x0 : Str) (K9 : Bool → Int → Option (Bool)) : Nat → Bool → Int → Option (Bool)
  | 0, _, _ => none
  | m + 1, y6, y7 =>
    bif decide ((y7 : Int) < ((x0.length : Int) : Int)) then
      ((chM x0 y7).bind fun u13 =>
      (Vm.impl_wordByte u13).bind fun z15 =>
      bif (!z15) then
        (some false)
      else
        (impl_nameOk_l1 x0 K9 m y6 (w64 (y7 + 1))))
    else
      (K9 y6 y7)

def impl_nameOk (x0 : Str) : Option (Bool) :=
  (Vm.impl_within (x0.length : Int) 1 6).bind fun z1 =>
  bif (!z1) then
    (some false)
  else
    (jn (fun (y6 : Bool) (y7 : Int) =>
      some true) fun K9 =>
    impl_nameOk_l1 x0 K9 (((x0.length : Int) - 0).toNat + 1) false 0)

def impl_lineOk_l1 (x0 : Str) (K5 : Bool → Int → Option (Bool)) : Nat → Bool → Int → Option (Bool)
  | 0, _, _ => none
  | m + 1, y2, y3 =>
    bif decide ((y3 : Int) < ((x0.length : Int) : Int)) then
      (jn (fun (y9 : Bool) =>
        bif y9 then
          (some false)
        else
          (impl_lineOk_l1 x0 K5 m y2 (w64 (y3 + 1)))) fun K11 =>
      (chM x0 y3).bind fun u14 =>
      bif decide (((UInt8.toNat u14 : Int) : Int) < (32 : Int)) then
        (K11 true)
      else
        ((chM x0 y3).bind fun u17 =>
        K11 (decide ((126 : Int) < ((UInt8.toNat u17 : Int) : Int)))))
    else
      (K5 y2 y3)

def impl_lineOk (x0 : Str) : Option (Bool) :=
  bif decide ((12 : Int) < ((x0.length : Int) : Int)) then
    (some false)
  else
    (jn (fun (y2 : Bool) (y3 : Int) =>
      some true) fun K5 =>
    impl_lineOk_l1 x0 K5 (((x0.length : Int) - 0).toNat + 1) false 0)

def impl_TextOk_l1 (x0 : List Str) (K6 : Bool → Int → Option (Bool)) : Nat → Bool → Int → Option (Bool)
  | 0, _, _ => none
  | m + 1, y2, y4 =>
    bif decide ((y4 : Int) < ((x0.length : Int) : Int)) then
      ((gi x0 y4).bind fun u10 =>
      (Vm.impl_lineOk u10).bind fun z13 =>
      bif (!z13) then
        (some false)
      else
        (impl_TextOk_l1 x0 K6 m y2 (w64 (y4 + 1))))
    else
      (K6 y2 y4)

def impl_TextOk (x0 : List Str) : Option (Bool) :=
  bif decide ((10 : Int) < ((x0.length : Int) : Int)) then
    (some false)
  else
    (jn (fun (y2 : Bool) (y4 : Int) =>
      some true) fun K6 =>
    impl_TextOk_l1 x0 K6 (((x0.length : Int) - 0).toNat + 1) false 0)

def strings_Split (x0 : Str) (x1 : Str) : Option ((List Str)) :=
  if x0.length ≤ 4294967000 ∧ 1 ≤ x1.length then some (Go.Lib.split x0 x1) else none

def impl_PathOk_l1 (z1 : (List Str)) (K10 : Bool → Int → Option (Bool)) : Nat → Bool → Int → Option (Bool)
  | 0, _, _ => none
  | m + 1, y6, y8 =>
    bif decide ((y8 : Int) < ((z1.length : Int) : Int)) then
      ((gi z1 y8).bind fun u15 =>
      (Vm.impl_nameOk u15).bind fun z17 =>
      bif (!z17) then
        (some false)
      else
        (impl_PathOk_l1 z1 K10 m y6 (w64 (y8 + 1))))
    else
      (K10 y6 y8)

def impl_PathOk (x0 : Str) : Option (Bool) :=
  (Vm.strings_Split x0 ([47] : Str)).bind fun z1 =>
  bif decide ((3 : Int) < ((z1.length : Int) : Int)) then
    (some false)
  else
    (jn (fun (y6 : Bool) (y8 : Int) =>
      some true) fun K10 =>
    impl_PathOk_l1 z1 K10 (((z1.length : Int) - 0).toNat + 1) false 0)

def strings_HasPrefix (x0 : Str) (x1 : Str) : Option (Bool) :=
  some (Go.Lib.hasPrefix x0 x1)

def impl_PathIn (x0 : Str) (x1 : Str) : Option (Bool) :=
  jn (fun (y1 : Bool) =>
    some y1) fun K3 =>
  (Vm.impl_PathOk x0).bind fun z5 =>
  bif z5 then
    ((Vm.impl_PathOk x1).bind fun z11 =>
    bif z11 then
      ((saM x0 ([47] : Str)).bind fun q16 =>
      (Vm.strings_HasPrefix x1 q16).bind fun z18 =>
      K3 z18)
    else
      (K3 false))
  else
    (K3 false)

def impl_TreeOk_l2 (u12 : Vm.File) (q30 : List Vm.File) (K39 : Bool → Int → Option (Bool)) : Nat → Bool → Int → Option (Bool)
  | 0, _, _ => none
  | m + 1, y35, y37 =>
    bif decide ((y37 : Int) < ((q30.length : Int) : Int)) then
      ((gi q30 y37).bind fun u44 =>
      (Vm.impl_PathIn u44.Path u12.Path).bind fun z59 =>
      bif z59 then
        (some false)
      else
        (impl_TreeOk_l2 u12 q30 K39 m y35 (w64 (y37 + 1))))
    else
      (K39 y35 y37)

def impl_TreeOk_l1 (x0 : List Vm.File) (K8 : Bool → Int → Option (Bool)) : Nat → Bool → Int → Option (Bool)
  | 0, _, _ => none
  | m + 1, y2, y6 =>
    bif decide ((y6 : Int) < ((x0.length : Int) : Int)) then
      ((gi x0 y6).bind fun u12 =>
      jn (fun (y24 : Bool) =>
        bif y24 then
          (some false)
        else
          ((slM x0 0 y6).bind fun q30 =>
          jn (fun (y35 : Bool) (y37 : Int) =>
            impl_TreeOk_l1 x0 K8 m y35 (w64 (y6 + 1))) fun K39 =>
          impl_TreeOk_l2 u12 q30 K39 (((q30.length : Int) - 0).toNat + 1) y2 0)) fun K26 =>
      (Vm.impl_TextOk u12.Text).bind fun z70 =>
      bif (!z70) then
        (K26 true)
      else
        ((Vm.impl_PathOk u12.Path).bind fun z77 =>
        bif (!z77) then
          (K26 true)
        else
          (bif decide ((0 : Int) < (y6 : Int)) then
            ((gi x0 (w64 (y6 - 1))).bind fun u84 =>
            K26 (!Op.bytesLess u84.Path u12.Path))
          else
            (K26 false))))
    else
      (K8 y2 y6)

def impl_TreeOk (x0 : List Vm.File) : Option (Bool) :=
  bif decide ((8 : Int) < ((x0.length : Int) : Int)) then
    (some false)
  else
    (jn (fun (y2 : Bool) (y6 : Int) =>
      some true) fun K8 =>
    impl_TreeOk_l1 x0 K8 (((x0.length : Int) - 0).toNat + 1) false 0)

def impl_Repo_exists (x0 : Vm.Repo) (x1 : Int) : Option (Bool) :=
  (Vm.impl_within x1 0 (w64 ((x0.Commits.length : Int) - 1))).bind fun z4 =>
  some z4

def impl_headsOk_l1 (x0 : Vm.Repo) (x1 : List Vm.Head) (K10 : Bool → Int → Option (Bool)) : Nat → Bool → Int → Option (Bool)
  | 0, _, _ => none
  | m + 1, y5, y8 =>
    bif decide ((y8 : Int) < ((x1.length : Int) : Int)) then
      ((gi x1 y8).bind fun u15 =>
      jn (fun (y27 : Bool) =>
        bif y27 then
          (some false)
        else
          (impl_headsOk_l1 x0 x1 K10 m y5 (w64 (y8 + 1)))) fun K29 =>
      (Vm.impl_nameOk u15.Name).bind fun z38 =>
      bif (!z38) then
        (K29 true)
      else
        ((Vm.impl_Repo_exists x0 u15.At).bind fun z47 =>
        bif (!z47) then
          (K29 true)
        else
          (bif decide ((0 : Int) < (y8 : Int)) then
            ((gi x1 (w64 (y8 - 1))).bind fun u55 =>
            K29 (!Op.bytesLess u55.Name u15.Name))
          else
            (K29 false))))
    else
      (K10 y5 y8)

def impl_headsOk (x0 : Vm.Repo) (x1 : List Vm.Head) : Option (Bool) :=
  bif decide ((5 : Int) < ((x1.length : Int) : Int)) then
    (some false)
  else
    (jn (fun (y5 : Bool) (y8 : Int) =>
      some true) fun K10 =>
    impl_headsOk_l1 x0 x1 K10 (((x1.length : Int) - 0).toNat + 1) false 0)

def impl_RepoOk_l2 (y9 : Int) (u16 : Vm.Commit) (K44 : Bool → Int → Option (Bool)) : Nat → Bool → Int → Option (Bool)
  | 0, _, _ => none
  | m + 1, y40, y42 =>
    bif decide ((y42 : Int) < ((u16.Parents.length : Int) : Int)) then
      ((gi u16.Parents y42).bind fun u50 =>
      (Vm.impl_within u50 0 (w64 (y9 - 1))).bind fun z53 =>
      bif (!z53) then
        (some false)
      else
        (impl_RepoOk_l2 y9 u16 K44 m y40 (w64 (y42 + 1))))
    else
      (K44 y40 y42)

def impl_RepoOk_l1 (x0 : Vm.Repo) (K11 : Bool → Int → Option (Bool)) : Nat → Bool → Int → Option (Bool)
  | 0, _, _ => none
  | m + 1, y5, y9 =>
    bif decide ((y9 : Int) < ((x0.Commits.length : Int) : Int)) then
      ((gi x0.Commits y9).bind fun u16 =>
      jn (fun (y32 : Bool) =>
        bif y32 then
          (some false)
        else
          (jn (fun (y40 : Bool) (y42 : Int) =>
            impl_RepoOk_l1 x0 K11 m y40 (w64 (y9 + 1))) fun K44 =>
          impl_RepoOk_l2 y9 u16 K44 (((u16.Parents.length : Int) - 0).toNat + 1) y5 0)) fun K34 =>
      bif decide ((2 : Int) < ((u16.Parents.length : Int) : Int)) then
        (K34 true)
      else
        (bif (((u16.Parents.length : Int) : Int) == (2 : Int)) then
          ((gi u16.Parents 0).bind fun u67 =>
          (gi u16.Parents 1).bind fun u69 =>
          bif ((u67 : Int) == (u69 : Int)) then
            (K34 true)
          else
            ((Vm.impl_nameOk u16.Who).bind fun z72 =>
            bif (!z72) then
              (K34 true)
            else
              ((Vm.impl_TreeOk u16.Tree).bind fun z81 =>
              K34 (!z81))))
        else
          ((Vm.impl_nameOk u16.Who).bind fun z87 =>
          bif (!z87) then
            (K34 true)
          else
            ((Vm.impl_TreeOk u16.Tree).bind fun z96 =>
            K34 (!z96)))))
    else
      (K11 y5 y9)

def impl_RepoOk (x0 : Vm.Repo) : Option (Bool) :=
  bif decide ((16 : Int) < ((x0.Commits.length : Int) : Int)) then
    (some false)
  else
    (jn (fun (y5 : Bool) (y9 : Int) =>
      (Vm.impl_headsOk x0 x0.Heads).bind fun z104 =>
      some z104) fun K11 =>
    impl_RepoOk_l1 x0 K11 (((x0.Commits.length : Int) - 0).toNat + 1) false 0)

def impl_Repo_at_l1 (x0 : Vm.Repo) (x1 : Str) (K8 : Int → Int → Option (Int)) : Nat → Int → Int → Option (Int)
  | 0, _, _ => none
  | m + 1, y4, y6 =>
    bif decide ((y6 : Int) < ((x0.Heads.length : Int) : Int)) then
      ((gi x0.Heads y6).bind fun u13 =>
      bif (u13.Name == x1) then
        (some u13.At)
      else
        (impl_Repo_at_l1 x0 x1 K8 m y4 (w64 (y6 + 1))))
    else
      (K8 y4 y6)

def impl_Repo_at (x0 : Vm.Repo) (x1 : Str) : Option (Int) :=
  jn (fun (y4 : Int) (y6 : Int) =>
    some (-1)) fun K8 =>
  impl_Repo_at_l1 x0 x1 K8 (((x0.Heads.length : Int) - 0).toNat + 1) 0 0

def impl_copyText (x0 : List Str) : Option ((List Str)) :=
  (apM ([] : List Str) x0).bind fun q3 =>
  some q3

def impl_copyTree_l1 (x0 : List Vm.File) (K7 : List Vm.File → Int → Option ((List Vm.File))) : Nat → List Vm.File → Int → Option ((List Vm.File))
  | 0, _, _ => none
  | m + 1, y1, y5 =>
    bif decide ((y5 : Int) < ((x0.length : Int) : Int)) then
      ((gi x0 y5).bind fun u11 =>
      (Vm.impl_copyText u11.Text).bind fun z30 =>
      (apM y1 [Vm.File.mk u11.Path z30]).bind fun q41 =>
      impl_copyTree_l1 x0 K7 m q41 (w64 (y5 + 1)))
    else
      (K7 y1 y5)

def impl_copyTree (x0 : List Vm.File) : Option ((List Vm.File)) :=
  jn (fun (y1 : List Vm.File) (y5 : Int) =>
    some y1) fun K7 =>
  impl_copyTree_l1 x0 K7 (((x0.length : Int) - 0).toNat + 1) ([] : List File) 0

def impl_Repo_own_l1 (x0 : Vm.Repo) (K38 : Int → List Vm.Commit → List Vm.Head → Option (Vm.Repo)) : Nat → Int → List Vm.Commit → List Vm.Head → Option (Vm.Repo)
  | 0, _, _, _ => none
  | m + 1, y29, y30, y33 =>
    bif decide ((y29 : Int) < ((x0.Commits.length : Int) : Int)) then
      ((gi x0.Commits y29).bind fun u44 =>
      (apM ([] : List Int) u44.Parents).bind fun q84 =>
      (Vm.impl_copyTree u44.Tree).bind fun z96 =>
      (apM y30 [Vm.Commit.mk q84 u44.Who z96]).bind fun q117 =>
      impl_Repo_own_l1 x0 K38 m (w64 (y29 + 1)) q117 y33)
    else
      (K38 y29 y30 y33)

def impl_Repo_own (x0 : Vm.Repo) : Option (Vm.Repo) :=
  (apM ([] : List Head) x0.Heads).bind fun q10 =>
  jn (fun (y29 : Int) (y30 : List Vm.Commit) (y33 : List Vm.Head) =>
    some (Vm.Repo.mk y30 y33)) fun K38 =>
  impl_Repo_own_l1 x0 K38 (((x0.Commits.length : Int) - 0).toNat + 1) 0 ([] : List Commit) q10

def slices_Insert_impl_Head_impl_Head (x0 : List Vm.Head) (x1 : Int) (x2 : Vm.Head) : Option ((List Vm.Head)) :=
  if 0 ≤ x1 ∧ x1 ≤ x0.length ∧ x0.length + 1 ≤ lim then some (x0.take x1.toNat ++ [x2] ++ x0.drop x1.toNat) else none

def impl_insertHead_l1 (x0 : List Vm.Head) (x1 : Vm.Head) (K6 : Int → Option ((List Vm.Head))) : Nat → Int → Option ((List Vm.Head))
  | 0, _ => none
  | m + 1, y4 =>
    jn (fun (y10 : Bool) =>
      bif y10 then
        (impl_insertHead_l1 x0 x1 K6 m (w64 (y4 - 1)))
      else
        (K6 y4)) fun K12 =>
    bif decide ((0 : Int) < (y4 : Int)) then
      ((gi x0 (w64 (y4 - 1))).bind fun u92 =>
      K12 (!(Op.bytesLess u92.Name x1.Name || u92.Name == x1.Name)))
    else
      (K12 false)

def impl_insertHead (x0 : List Vm.Head) (x1 : Vm.Head) : Option ((List Vm.Head)) :=
  jn (fun (y4 : Int) =>
    (apM ([] : List Head) x0).bind fun q22 =>
    (Vm.slices_Insert_impl_Head_impl_Head q22 y4 x1).bind fun z32 =>
    some z32) fun K6 =>
  impl_insertHead_l1 x0 x1 K6 (x0.length + 1) (x0.length : Int)

def impl_Repo_point_l1 (x0 : Vm.Repo) (x1 : Str) (x2 : Int) (K22 : Int → List Vm.Commit → List Vm.Head → List Vm.Head → Option (Vm.Repo)) : Nat → Int → List Vm.Commit → List Vm.Head → List Vm.Head → Option (Vm.Repo)
  | 0, _, _, _, _ => none
  | m + 1, y11, y12, y15, y19 =>
    bif decide ((y11 : Int) < ((x0.Heads.length : Int) : Int)) then
      ((gi y19 y11).bind fun u28 =>
      bif (u28.Name == x1) then
        ((gi y19 y11).bind fun u31 =>
        (siM y19 y11 (Vm.Head.mk u31.Name x2)).bind fun q34 =>
        some (Vm.Repo.mk x0.Commits q34))
      else
        (impl_Repo_point_l1 x0 x1 x2 K22 m (w64 (y11 + 1)) y12 y15 y19))
    else
      (K22 y11 y12 y15 y19)

def impl_Repo_point (x0 : Vm.Repo) (x1 : Str) (x2 : Int) : Option (Vm.Repo) :=
  jn (fun (y11 : Int) (y12 : List Vm.Commit) (y15 : List Vm.Head) (y19 : List Vm.Head) =>
    (Vm.impl_insertHead y19 (Vm.Head.mk x1 x2)).bind fun z63 =>
    some (Vm.Repo.mk x0.Commits z63)) fun K22 =>
  impl_Repo_point_l1 x0 x1 x2 K22 (((x0.Heads.length : Int) - 0).toNat + 1) 0 ([] : List Commit) ([] : List Head) x0.Heads

def impl_Repo_commit (x0 : Vm.Repo) (x1 : Str) (x2 : Str) (x3 : List Vm.File) (x4 : List Int) : Option (Vm.Repo) :=
  (Vm.impl_copyTree x3).bind fun z20 =>
  (apM x0.Commits [Vm.Commit.mk x4 x2 z20]).bind fun q37 =>
  (Vm.impl_Repo_point (Vm.Repo.mk q37 x0.Heads) x1 (w64 ((q37.length : Int) - 1))).bind fun z51 =>
  some (Vm.Repo.mk z51.Commits z51.Heads)

def impl_Repo_tried (x0 : Vm.Repo) (x1 : Vm.Repo) : Option (Vm.Repo × Bool) :=
  (Vm.impl_RepoOk (Vm.Repo.mk x1.Commits x1.Heads)).bind fun z17 =>
  bif (!z17) then
    ((Vm.impl_Repo_own x0).bind fun z29 =>
    some (Vm.Repo.mk z29.Commits z29.Heads, false))
  else
    (some (Vm.Repo.mk x1.Commits x1.Heads, true))

def impl_RepoCommit (x0 : Vm.Repo) (x1 : Str) (x2 : Str) (x3 : List Vm.File) : Option (Vm.Repo × Bool) :=
  (Vm.impl_RepoOk x0).bind fun z9 =>
  bif (!z9) then
    (some (Vm.Repo.mk ([] : List Commit) ([] : List Head), false))
  else
    (jn (fun (y19 : List Int) =>
      (Vm.impl_Repo_own x0).bind fun z35 =>
      (Vm.impl_Repo_commit (Vm.Repo.mk z35.Commits z35.Heads) x1 x2 x3 y19).bind fun z43 =>
      (Vm.impl_Repo_tried x0 (Vm.Repo.mk z43.Commits z43.Heads)).bind fun z52 =>
      some (Vm.Repo.mk z52.1.Commits z52.1.Heads, z52.2)) fun K24 =>
    (Vm.impl_Repo_at x0 x1).bind fun z75 =>
    bif decide ((0 : Int) ≤ (z75 : Int)) then
      ((apM ([] : List Int) [z75]).bind fun q86 =>
      K24 q86)
    else
      (K24 ([] : List Int)))

def laws_eqIntS_l1 (x0 : List Int) (x1 : List Int) (K5 : Bool → Int → Option (Bool)) : Nat → Bool → Int → Option (Bool)
  | 0, _, _ => none
  | m + 1, y2, y3 =>
    bif decide ((y3 : Int) < ((x0.length : Int) : Int)) then
      ((gi x0 y3).bind fun u12 =>
      (gi x1 y3).bind fun u15 =>
      bif ((u12 : Int) != (u15 : Int)) then
        (some false)
      else
        (laws_eqIntS_l1 x0 x1 K5 m y2 (w64 (y3 + 1))))
    else
      (K5 y2 y3)

def laws_eqIntS (x0 : List Int) (x1 : List Int) : Option (Bool) :=
  bif (((x0.length : Int) : Int) != ((x1.length : Int) : Int)) then
    (some false)
  else
    (jn (fun (y2 : Bool) (y3 : Int) =>
      some true) fun K5 =>
    laws_eqIntS_l1 x0 x1 K5 (((x0.length : Int) - 0).toNat + 1) false 0)

def laws_eqStringS_l1 (x0 : List Str) (x1 : List Str) (K5 : Bool → Int → Option (Bool)) : Nat → Bool → Int → Option (Bool)
  | 0, _, _ => none
  | m + 1, y2, y3 =>
    bif decide ((y3 : Int) < ((x0.length : Int) : Int)) then
      ((gi x0 y3).bind fun u12 =>
      (gi x1 y3).bind fun u15 =>
      bif (u12 != u15) then
        (some false)
      else
        (laws_eqStringS_l1 x0 x1 K5 m y2 (w64 (y3 + 1))))
    else
      (K5 y2 y3)

def laws_eqStringS (x0 : List Str) (x1 : List Str) : Option (Bool) :=
  bif (((x0.length : Int) : Int) != ((x1.length : Int) : Int)) then
    (some false)
  else
    (jn (fun (y2 : Bool) (y3 : Int) =>
      some true) fun K5 =>
    laws_eqStringS_l1 x0 x1 K5 (((x0.length : Int) - 0).toNat + 1) false 0)

def laws_eqFile (x0 : Vm.File) (x1 : Vm.File) : Option (Bool) :=
  bif (x0.Path != x1.Path) then
    (some false)
  else
    ((Vm.laws_eqStringS x0.Text x1.Text).bind fun z9 =>
    bif (!z9) then
      (some false)
    else
      (some true))

def laws_eqFileS_l1 (x0 : List Vm.File) (x1 : List Vm.File) (K5 : Bool → Int → Option (Bool)) : Nat → Bool → Int → Option (Bool)
  | 0, _, _ => none
  | m + 1, y2, y3 =>
    bif decide ((y3 : Int) < ((x0.length : Int) : Int)) then
      ((gi x0 y3).bind fun u12 =>
      (gi x1 y3).bind fun u20 =>
      (Vm.laws_eqFile u12 u20).bind fun z28 =>
      bif (!z28) then
        (some false)
      else
        (laws_eqFileS_l1 x0 x1 K5 m y2 (w64 (y3 + 1))))
    else
      (K5 y2 y3)

def laws_eqFileS (x0 : List Vm.File) (x1 : List Vm.File) : Option (Bool) :=
  bif (((x0.length : Int) : Int) != ((x1.length : Int) : Int)) then
    (some false)
  else
    (jn (fun (y2 : Bool) (y3 : Int) =>
      some true) fun K5 =>
    laws_eqFileS_l1 x0 x1 K5 (((x0.length : Int) - 0).toNat + 1) false 0)

def laws_eqCommit (x0 : Vm.Commit) (x1 : Vm.Commit) : Option (Bool) :=
  (Vm.laws_eqIntS x0.Parents x1.Parents).bind fun z8 =>
  bif (!z8) then
    (some false)
  else
    (bif (x0.Who != x1.Who) then
      (some false)
    else
      ((Vm.laws_eqFileS x0.Tree x1.Tree).bind fun z18 =>
      bif (!z18) then
        (some false)
      else
        (some true)))

def laws_eqCommitS_l1 (x0 : List Vm.Commit) (x1 : List Vm.Commit) (K5 : Bool → Int → Option (Bool)) : Nat → Bool → Int → Option (Bool)
  | 0, _, _ => none
  | m + 1, y2, y3 =>
    bif decide ((y3 : Int) < ((x0.length : Int) : Int)) then
      ((gi x0 y3).bind fun u12 =>
      (gi x1 y3).bind fun u22 =>
      (Vm.laws_eqCommit u12 u22).bind fun z32 =>
      bif (!z32) then
        (some false)
      else
        (laws_eqCommitS_l1 x0 x1 K5 m y2 (w64 (y3 + 1))))
    else
      (K5 y2 y3)

def laws_eqCommitS (x0 : List Vm.Commit) (x1 : List Vm.Commit) : Option (Bool) :=
  bif (((x0.length : Int) : Int) != ((x1.length : Int) : Int)) then
    (some false)
  else
    (jn (fun (y2 : Bool) (y3 : Int) =>
      some true) fun K5 =>
    laws_eqCommitS_l1 x0 x1 K5 (((x0.length : Int) - 0).toNat + 1) false 0)

def laws_eqHead (x0 : Vm.Head) (x1 : Vm.Head) : Option (Bool) :=
  bif (x0.Name != x1.Name) then
    (some false)
  else
    (bif ((x0.At : Int) != (x1.At : Int)) then
      (some false)
    else
      (some true))

def laws_eqHeadS_l1 (x0 : List Vm.Head) (x1 : List Vm.Head) (K5 : Bool → Int → Option (Bool)) : Nat → Bool → Int → Option (Bool)
  | 0, _, _ => none
  | m + 1, y2, y3 =>
    bif decide ((y3 : Int) < ((x0.length : Int) : Int)) then
      ((gi x0 y3).bind fun u12 =>
      (gi x1 y3).bind fun u18 =>
      (Vm.laws_eqHead u12 u18).bind fun z24 =>
      bif (!z24) then
        (some false)
      else
        (laws_eqHeadS_l1 x0 x1 K5 m y2 (w64 (y3 + 1))))
    else
      (K5 y2 y3)

def laws_eqHeadS (x0 : List Vm.Head) (x1 : List Vm.Head) : Option (Bool) :=
  bif (((x0.length : Int) : Int) != ((x1.length : Int) : Int)) then
    (some false)
  else
    (jn (fun (y2 : Bool) (y3 : Int) =>
      some true) fun K5 =>
    laws_eqHeadS_l1 x0 x1 K5 (((x0.length : Int) - 0).toNat + 1) false 0)

def laws_eqRepo (x0 : Vm.Repo) (x1 : Vm.Repo) : Option (Bool) :=
  (Vm.laws_eqCommitS x0.Commits x1.Commits).bind fun z8 =>
  bif (!z8) then
    (some false)
  else
    ((Vm.laws_eqHeadS x0.Heads x1.Heads).bind fun z17 =>
    bif (!z17) then
      (some false)
    else
      (some true))

def laws_markIntS_l1  (K6 : Int → Int → List Int → Option (Int × (List Int))) : Nat → Int → Int → List Int → Option (Int × (List Int))
  | 0, _, _, _ => none
  | m + 1, y1, y2, y3 =>
    bif decide ((y2 : Int) < ((y3.length : Int) : Int)) then
      ((gi y3 y2).bind fun u10 =>
      (siM y3 y2 y1).bind fun q13 =>
      laws_markIntS_l1 K6 m (w64 (y1 + 1)) (w64 (y2 + 1)) q13)
    else
      (K6 y1 y2 y3)

def laws_markIntS (x0 : List Int) (x1 : Int) : Option (Int × (List Int)) :=
  jn (fun (y1 : Int) (y2 : Int) (y3 : List Int) =>
    some (y1, y3)) fun K6 =>
  laws_markIntS_l1 K6 (((x0.length : Int) - 0).toNat + 1) x1 0 x0

def laws_markText_l1  (K5 : Int → Str → Option (Str)) : Nat → Int → Str → Option (Str)
  | 0, _, _ => none
  | m + 1, y2, y3 =>
    bif decide ((0 : Int) < (y2 : Int)) then
      ((saM (([(by8 (w64 (48 + (Int.tmod y2 10))))] : List Byte) : Str) y3).bind fun q11 =>
      laws_markText_l1 K5 m (w64 (Int.tdiv y2 10)) q11)
    else
      (K5 y2 y3)

def laws_markText (x0 : Int) : Option (Str) :=
  bif decide ((x0 : Int) ≤ (0 : Int)) then
    (some ([109, 48] : Str))
  else
    (jn (fun (y2 : Int) (y3 : Str) =>
      (saM ([109] : Str) y3).bind fun q13 =>
      some q13) fun K5 =>
    laws_markText_l1 K5 ((x0 - 0).toNat + 1) x0 ([] : Str))

def laws_markStringS_l1  (K6 : Int → Int → List Str → Option (Int × (List Str))) : Nat → Int → Int → List Str → Option (Int × (List Str))
  | 0, _, _, _ => none
  | m + 1, y1, y2, y3 =>
    bif decide ((y2 : Int) < ((y3.length : Int) : Int)) then
      ((Vm.laws_markText y1).bind fun z10 =>
      (gi y3 y2).bind fun u15 =>
      (siM y3 y2 z10).bind fun q18 =>
      laws_markStringS_l1 K6 m (w64 (y1 + 1)) (w64 (y2 + 1)) q18)
    else
      (K6 y1 y2 y3)

def laws_markStringS (x0 : List Str) (x1 : Int) : Option (Int × (List Str)) :=
  jn (fun (y1 : Int) (y2 : Int) (y3 : List Str) =>
    some (y1, y3)) fun K6 =>
  laws_markStringS_l1 K6 (((x0.length : Int) - 0).toNat + 1) x1 0 x0

def laws_markFileS_l1  (K6 : Int → Int → List Vm.File → Option (Int × (List Vm.File))) : Nat → Int → Int → List Vm.File → Option (Int × (List Vm.File))
  | 0, _, _, _ => none
  | m + 1, y1, y2, y3 =>
    bif decide ((y2 : Int) < ((y3.length : Int) : Int)) then
      ((Vm.laws_markText y1).bind fun z10 =>
      (gi y3 y2).bind fun u15 =>
      (siM y3 y2 (Vm.File.mk z10 u15.Text)).bind fun q18 =>
      (gi q18 y2).bind fun u21 =>
      (Vm.laws_markStringS u21.Text (w64 (y1 + 1))).bind fun z28 =>
      (siM q18 y2 (Vm.File.mk u21.Path z28.2)).bind fun q33_ =>
      laws_markFileS_l1 K6 m z28.1 (w64 (y2 + 1)) q33_)
    else
      (K6 y1 y2 y3)

def laws_markFileS (x0 : List Vm.File) (x1 : Int) : Option (Int × (List Vm.File)) :=
  jn (fun (y1 : Int) (y2 : Int) (y3 : List Vm.File) =>
    some (y1, y3)) fun K6 =>
  laws_markFileS_l1 K6 (((x0.length : Int) - 0).toNat + 1) x1 0 x0

def laws_markCommitS_l1  (K6 : Int → Int → List Vm.Commit → Option (Int × (List Vm.Commit))) : Nat → Int → Int → List Vm.Commit → Option (Int × (List Vm.Commit))
  | 0, _, _, _ => none
  | m + 1, y1, y2, y3 =>
    bif decide ((y2 : Int) < ((y3.length : Int) : Int)) then
      ((gi y3 y2).bind fun u10 =>
      (Vm.laws_markIntS u10.Parents y1).bind fun z17 =>
      (siM y3 y2 (Vm.Commit.mk z17.2 u10.Who u10.Tree)).bind fun q22_ =>
      (Vm.laws_markText z17.1).bind fun z24 =>
      (gi q22_ y2).bind fun u29 =>
      (siM q22_ y2 (Vm.Commit.mk u29.Parents z24 u29.Tree)).bind fun q32 =>
      (gi q32 y2).bind fun u35 =>
      (Vm.laws_markFileS u35.Tree (w64 (z17.1 + 1))).bind fun z42 =>
      (siM q32 y2 (Vm.Commit.mk u35.Parents u35.Who z42.2)).bind fun q47_ =>
      laws_markCommitS_l1 K6 m z42.1 (w64 (y2 + 1)) q47_)
    else
      (K6 y1 y2 y3)

def laws_markCommitS (x0 : List Vm.Commit) (x1 : Int) : Option (Int × (List Vm.Commit)) :=
  jn (fun (y1 : Int) (y2 : Int) (y3 : List Vm.Commit) =>
    some (y1, y3)) fun K6 =>
  laws_markCommitS_l1 K6 (((x0.length : Int) - 0).toNat + 1) x1 0 x0

def laws_markHeadS_l1  (K6 : Int → Int → List Vm.Head → Option (Int × (List Vm.Head))) : Nat → Int → Int → List Vm.Head → Option (Int × (List Vm.Head))
  | 0, _, _, _ => none
  | m + 1, y1, y2, y3 =>
    bif decide ((y2 : Int) < ((y3.length : Int) : Int)) then
      ((Vm.laws_markText y1).bind fun z10 =>
      (gi y3 y2).bind fun u15 =>
      (siM y3 y2 (Vm.Head.mk z10 u15.At)).bind fun q18 =>
      (gi q18 y2).bind fun u21 =>
      (siM q18 y2 (Vm.Head.mk u21.Name (w64 (y1 + 1)))).bind fun q24 =>
      laws_markHeadS_l1 K6 m (w64 ((w64 (y1 + 1)) + 1)) (w64 (y2 + 1)) q24)
    else
      (K6 y1 y2 y3)

def laws_markHeadS (x0 : List Vm.Head) (x1 : Int) : Option (Int × (List Vm.Head)) :=
  jn (fun (y1 : Int) (y2 : Int) (y3 : List Vm.Head) =>
    some (y1, y3)) fun K6 =>
  laws_markHeadS_l1 K6 (((x0.length : Int) - 0).toNat + 1) x1 0 x0

def laws_markRepo (x0 : Vm.Repo) (x1 : Int) : Option (Int × Vm.Repo) :=
  (Vm.laws_markCommitS x0.Commits x1).bind fun z5 =>
  (Vm.laws_markHeadS x0.Heads z5.1).bind fun z11 =>
  some (z11.1, Vm.Repo.mk z5.2 z11.2)

def laws_heldIntS_l1 (x0 : List Int) (K5 : Int → Int → Int → Option (Int)) : Nat → Int → Int → Int → Option (Int)
  | 0, _, _, _ => none
  | m + 1, y1, y2, y3 =>
    bif decide ((y3 : Int) < ((x0.length : Int) : Int)) then
      ((gi x0 y3).bind fun u10 =>
      bif ((u10 : Int) != (y1 : Int)) then
        (some (-1))
      else
        (laws_heldIntS_l1 x0 K5 m (w64 (y1 + 1)) y2 (w64 (y3 + 1))))
    else
      (K5 y1 y2 y3)

def laws_heldIntS (x0 : List Int) (x1 : Int) : Option (Int) :=
  jn (fun (y1 : Int) (y2 : Int) (y3 : Int) =>
    some y1) fun K5 =>
  laws_heldIntS_l1 x0 K5 (((x0.length : Int) - 0).toNat + 1) x1 0 0

def laws_heldStringS_l1 (x0 : List Str) (K5 : Int → Int → Int → Option (Int)) : Nat → Int → Int → Int → Option (Int)
  | 0, _, _, _ => none
  | m + 1, y1, y2, y3 =>
    bif decide ((y3 : Int) < ((x0.length : Int) : Int)) then
      ((gi x0 y3).bind fun u12 =>
      (Vm.laws_markText y1).bind fun z15 =>
      bif (u12 != z15) then
        (some (-1))
      else
        (laws_heldStringS_l1 x0 K5 m (w64 (y1 + 1)) y2 (w64 (y3 + 1))))
    else
      (K5 y1 y2 y3)

def laws_heldStringS (x0 : List Str) (x1 : Int) : Option (Int) :=
  jn (fun (y1 : Int) (y2 : Int) (y3 : Int) =>
    some y1) fun K5 =>
  laws_heldStringS_l1 x0 K5 (((x0.length : Int) - 0).toNat + 1) x1 0 0

def laws_heldFileS_l1 (x0 : List Vm.File) (K5 : Int → Int → Int → Option (Int)) : Nat → Int → Int → Int → Option (Int)
  | 0, _, _, _ => none
  | m + 1, y1, y2, y3 =>
    bif decide ((y3 : Int) < ((x0.length : Int) : Int)) then
      ((gi x0 y3).bind fun u12 =>
      (Vm.laws_markText y1).bind fun z15 =>
      bif (u12.Path != z15) then
        (some (-1))
      else
        ((gi x0 y3).bind fun u20 =>
        (Vm.laws_heldStringS u20.Text (w64 (y1 + 1))).bind fun z26 =>
        bif decide ((z26 : Int) < (0 : Int)) then
          (some (-1))
        else
          (laws_heldFileS_l1 x0 K5 m z26 y2 (w64 (y3 + 1)))))
    else
      (K5 y1 y2 y3)

def laws_heldFileS (x0 : List Vm.File) (x1 : Int) : Option (Int) :=
  jn (fun (y1 : Int) (y2 : Int) (y3 : Int) =>
    some y1) fun K5 =>
  laws_heldFileS_l1 x0 K5 (((x0.length : Int) - 0).toNat + 1) x1 0 0

def laws_heldCommitS_l1 (x0 : List Vm.Commit) (K5 : Int → Int → Int → Option (Int)) : Nat → Int → Int → Int → Option (Int)
  | 0, _, _, _ => none
  | m + 1, y1, y2, y3 =>
    bif decide ((y3 : Int) < ((x0.length : Int) : Int)) then
      ((gi x0 y3).bind fun u10 =>
      (Vm.laws_heldIntS u10.Parents y1).bind fun z15 =>
      bif decide ((z15 : Int) < (0 : Int)) then
        (some (-1))
      else
        ((gi x0 y3).bind fun u22 =>
        (Vm.laws_markText z15).bind fun z25 =>
        bif (u22.Who != z25) then
          (some (-1))
        else
          ((gi x0 y3).bind fun u30 =>
          (Vm.laws_heldFileS u30.Tree (w64 (z15 + 1))).bind fun z36 =>
          bif decide ((z36 : Int) < (0 : Int)) then
            (some (-1))
          else
            (laws_heldCommitS_l1 x0 K5 m z36 y2 (w64 (y3 + 1))))))
    else
      (K5 y1 y2 y3)

def laws_heldCommitS (x0 : List Vm.Commit) (x1 : Int) : Option (Int) :=
  jn (fun (y1 : Int) (y2 : Int) (y3 : Int) =>
    some y1) fun K5 =>
  laws_heldCommitS_l1 x0 K5 (((x0.length : Int) - 0).toNat + 1) x1 0 0

def laws_heldHeadS_l1 (x0 : List Vm.Head) (K5 : Int → Int → Int → Option (Int)) : Nat → Int → Int → Int → Option (Int)
  | 0, _, _, _ => none
  | m + 1, y1, y2, y3 =>
    bif decide ((y3 : Int) < ((x0.length : Int) : Int)) then
      ((gi x0 y3).bind fun u12 =>
      (Vm.laws_markText y1).bind fun z15 =>
      bif (u12.Name != z15) then
        (some (-1))
      else
        ((gi x0 y3).bind fun u20 =>
        bif ((u20.At : Int) != (w64 (y1 + 1) : Int)) then
          (some (-1))
        else
          (laws_heldHeadS_l1 x0 K5 m (w64 ((w64 (y1 + 1)) + 1)) y2 (w64 (y3 + 1)))))
    else
      (K5 y1 y2 y3)

def laws_heldHeadS (x0 : List Vm.Head) (x1 : Int) : Option (Int) :=
  jn (fun (y1 : Int) (y2 : Int) (y3 : Int) =>
    some y1) fun K5 =>
  laws_heldHeadS_l1 x0 K5 (((x0.length : Int) - 0).toNat + 1) x1 0 0

def laws_heldRepo (x0 : Vm.Repo) (x1 : Int) : Option (Int) :=
  (Vm.laws_heldCommitS x0.Commits x1).bind fun z4 =>
  bif decide ((z4 : Int) < (0 : Int)) then
    (some (-1))
  else
    ((Vm.laws_heldHeadS x0.Heads z4).bind fun z11 =>
    bif decide ((z11 : Int) < (0 : Int)) then
      (some (-1))
    else
      (some z11))

def laws_FnExactRepoCommit (x0 : Vm.Repo) (x1 : Str) (x2 : Str) (x3 : List Vm.File) : Option (Bool) :=
  bif decide ((1048576 : Int) < ((x1.length : Int) : Int)) then
    (some true)
  else
    (bif decide ((1048576 : Int) < ((x2.length : Int) : Int)) then
      (some true)
    else
      ((Vm.laws_szRepo x0 1048576).bind fun z7 =>
      bif decide ((z7 : Int) < (0 : Int)) then
        (some true)
      else
        ((Vm.laws_szFileS x3 z7).bind fun z14 =>
        bif decide ((z14 : Int) < (0 : Int)) then
          (some true)
        else
          ((Vm.laws_toRepo x0).bind fun z22 =>
          (Vm.laws_toFileS x3).bind fun z28 =>
          (Vm.spec_RepoCommit (Vm.Repo.mk z22.Commits z22.Heads) x1 x2 z28).bind fun z35 =>
          (Vm.laws_toRepo x0).bind fun z59 =>
          (Vm.laws_toFileS x3).bind fun z87 =>
          (Vm.impl_RepoCommit (Vm.Repo.mk z59.Commits z59.Heads) x1 x2 z87).bind fun z100 =>
          jn (fun (y139 : Bool) =>
            bif y139 then
              (some false)
            else
              ((Vm.laws_toRepo x0).bind fun z172 =>
              (Vm.laws_eqRepo (Vm.Repo.mk z59.Commits z59.Heads) (Vm.Repo.mk z172.Commits z172.Heads)).bind fun z188 =>
              bif (!z188) then
                (some false)
              else
                ((Vm.laws_toFileS x3).bind fun z208 =>
                (Vm.laws_eqFileS z87 z208).bind fun z226 =>
                bif (!z226) then
                  (some false)
                else
                  ((Vm.laws_markRepo (Vm.Repo.mk z59.Commits z59.Heads) 1).bind fun z246 =>
                  (Vm.laws_markFileS z87 z246.1).bind fun z263 =>
                  jn (fun (y281 : Bool) =>
                    bif y281 then
                      (some false)
                    else
                      ((Vm.laws_markRepo (Vm.Repo.mk z100.1.Commits z100.1.Heads) 1).bind fun z301 =>
                      (Vm.laws_heldRepo (Vm.Repo.mk z301.2.Commits z301.2.Heads) 1).bind fun z318 =>
                      bif decide ((z318 : Int) < (0 : Int)) then
                        (some false)
                      else
                        (bif ((z318 : Int) != (z301.1 : Int)) then
                          (some false)
                        else
                          ((Vm.laws_toRepo x0).bind fun z341 =>
                          (Vm.laws_toFileS x3).bind fun z361 =>
                          (Vm.impl_RepoCommit (Vm.Repo.mk z341.Commits z341.Heads) x1 x2 z361).bind fun z383 =>
                          jn (fun (y449 : Bool) =>
                            bif y449 then
                              (some false)
                            else
                              ((Vm.laws_heldRepo (Vm.Repo.mk z301.2.Commits z301.2.Heads) 1).bind fun z475 =>
                              bif decide ((z475 : Int) < (0 : Int)) then
                                (some false)
                              else
                                (bif ((z475 : Int) != (z301.1 : Int)) then
                                  (some false)
                                else
                                  (some true)))) fun K451 =>
                          (Vm.laws_eqRepo (Vm.Repo.mk z383.1.Commits z383.1.Heads) z35.1).bind fun z504 =>
                          bif (!z504) then
                            (K451 true)
                          else
                            (K451 (z383.2 != z35.2)))))) fun K283 =>
                  bif decide ((z263.1 : Int) < (0 : Int)) then
                    (K283 true)
                  else
                    ((Vm.laws_eqRepo (Vm.Repo.mk z100.1.Commits z100.1.Heads) z35.1).bind fun z533 =>
                    bif (!z533) then
                      (K283 true)
                    else
                      (K283 (z100.2 != z35.2))))))) fun K141 =>
          (Vm.laws_eqRepo (Vm.Repo.mk z100.1.Commits z100.1.Heads) z35.1).bind fun z555 =>
          bif (!z555) then
            (K141 true)
          else
            (K141 (z100.2 != z35.2))))))

def spec_l12Any_l1 (x0 : Vm.Repo) (x1 : List Int) (K6 : Bool → Int → Option (Bool)) : Nat → Bool → Int → Option (Bool)
  | 0, _, _ => none
  | m + 1, y3, y4 =>
    bif decide ((y4 : Int) < ((x1.length : Int) : Int)) then
      ((gi x1 y4).bind fun u15 =>
      (Vm.spec_l1In u15 0 (w64 ((x0.Commits.length : Int) - 1))).bind fun z19 =>
      bif (!z19) then
        (some false)
      else
        (spec_l12Any_l1 x0 x1 K6 m y3 (w64 (y4 + 1))))
    else
      (K6 y3 y4)

def spec_l12Any (x0 : Vm.Repo) (x1 : List Int) : Option (Bool) :=
  jn (fun (y3 : Bool) (y4 : Int) =>
    some (decide (((x1.length : Int) : Int) ≤ (16 : Int)))) fun K6 =>
  spec_l12Any_l1 x0 x1 K6 (((x1.length : Int) - 0).toNat + 1) false 0

def spec_SendTake_l2 (x0 : Vm.Repo) (x1 : List Int) (y50 : Int) (K130 : Bool → Int → List Vm.Commit → List Vm.Head → List Int → Option (Vm.Repo × Bool)) : Nat → Bool → Int → List Vm.Commit → List Vm.Head → List Int → Option (Vm.Repo × Bool)
  | 0, _, _, _, _, _ => none
  | m + 1, y117, y118, y120, y123, y127 =>
    bif decide ((y118 : Int) < ((y127.length : Int) : Int)) then
      (jn (fun (y140 : Bool) (y142 : List Vm.Commit) (y145 : List Vm.Head) (y149 : List Int) =>
        spec_SendTake_l2 x0 x1 y50 K130 m y140 (w64 (y118 + 1)) y142 y145 y149) fun K152 =>
      (gi y127 y118).bind fun u160 =>
      (Vm.spec_l1In u160 0 (w64 (y50 - 1))).bind fun z162 =>
      bif z162 then
        ((gi y127 y118).bind fun u177 =>
        (siM y127 y118 (w64 ((x0.Commits.length : Int) + u160))).bind fun q180 =>
        K152 y117 y120 y123 q180)
      else
        (jn (fun (y192 : Bool) =>
          bif y192 then
            ((gi x1 (w64 ((-1) - u160))).bind fun u219 =>
            (gi y127 y118).bind fun u222 =>
            (siM y127 y118 u219).bind fun q225 =>
            K152 y117 y120 y123 q225)
          else
            ((Vm.spec_l7Copy x0).bind fun z239 =>
            some (Vm.Repo.mk z239.Commits z239.Heads, false))) fun K194 =>
        (Vm.spec_l1In (w64 ((-1) - u160)) 0 (w64 ((x1.length : Int) - 1))).bind fun z295 =>
        bif z295 then
          (K194 (decide ((u160 : Int) < (0 : Int))))
        else
          (K194 false)))
    else
      (K130 y117 y118 y120 y123 y127)

def spec_SendTake_l1 (x0 : Vm.Repo) (x1 : List Int) (x2 : List Vm.Commit) (K69 : Bool → Int → Int → List Vm.Commit → List Vm.Head → List Vm.Commit → List Vm.Head → Option (Vm.Repo × Bool)) : Nat → Bool → Int → Int → List Vm.Commit → List Vm.Head → List Vm.Commit → List Vm.Head → Option (Vm.Repo × Bool)
  | 0, _, _, _, _, _, _, _ => none
  | m + 1, y48, y49, y50, y54, y57, y61, y64 =>
    bif decide ((y50 : Int) < ((x2.length : Int) : Int)) then
      ((gi x2 y50).bind fun u75 =>
      (Vm.spec_l7CopyCommit u75).bind fun z84 =>
      jn (fun (y117 : Bool) (y118 : Int) (y120 : List Vm.Commit) (y123 : List Vm.Head) (y127 : List Int) =>
        (apM y54 [Vm.Commit.mk y127 z84.Who z84.Tree]).bind fun q322 =>
        spec_SendTake_l1 x0 x1 x2 K69 m y117 (w64 ((q322.length : Int) - 1)) (w64 (y50 + 1)) q322 y57 y120 y123) fun K130 =>
      spec_SendTake_l2 x0 x1 y50 K130 (((z84.Parents.length : Int) - 0).toNat + 1) y48 0 y61 y64 z84.Parents)
    else
      (K69 y48 y49 y50 y54 y57 y61 y64)

def spec_SendTake (x0 : Vm.Repo) (x1 : List Int) (x2 : List Vm.Commit) (x3 : Str) : Option (Vm.Repo × Bool) :=
  (Vm.spec_l7Ok x0).bind fun z8 =>
  bif (!z8) then
    (some (Vm.Repo.mk ([] : List Commit) ([] : List Head), false))
  else
    ((Vm.spec_l7Copy x0).bind fun z20 =>
    jn (fun (y39 : Int) =>
      jn (fun (y48 : Bool) (y49 : Int) (y50 : Int) (y54 : List Vm.Commit) (y57 : List Vm.Head) (y61 : List Vm.Commit) (y64 : List Vm.Head) =>
        (Vm.spec_l7Head (Vm.Repo.mk y54 y57) x3 y49).bind fun z344 =>
        jn (fun (y365 : Bool) =>
          bif y365 then
            ((Vm.spec_l7Copy x0).bind fun z379 =>
            some (Vm.Repo.mk z379.Commits z379.Heads, false))
          else
            (some (z344, true))) fun K367 =>
        (Vm.spec_l12Any x0 x1).bind fun z456 =>
        bif (!z456) then
          (K367 true)
        else
          ((Vm.spec_l7Ok z344).bind fun z470 =>
          K367 (!z470))) fun K69 =>
      spec_SendTake_l1 x0 x1 x2 K69 (((x2.length : Int) - 0).toNat + 1) false y39 0 z20.Commits z20.Heads ([] : List Commit) ([] : List Head)) fun K41 =>
    bif decide ((0 : Int) < ((x1.length : Int) : Int)) then
      ((gi x1 0).bind fun u483 =>
      K41 u483)
    else
      (K41 (-1)))

def impl_Repo_are_l1 (x0 : Vm.Repo) (x1 : List Int) (K17 : Bool → Int → Option (Bool)) : Nat → Bool → Int → Option (Bool)
  | 0, _, _ => none
  | m + 1, y13, y15 =>
    bif decide ((y15 : Int) < ((x1.length : Int) : Int)) then
      ((gi x1 y15).bind fun u22 =>
      (Vm.impl_Repo_exists x0 u22).bind fun z27 =>
      bif (!z27) then
        (some false)
      else
        (impl_Repo_are_l1 x0 x1 K17 m y13 (w64 (y15 + 1))))
    else
      (K17 y13 y15)

def impl_Repo_are (x0 : Vm.Repo) (x1 : List Int) : Option (Bool) :=
  (Vm.impl_RepoOk x0).bind fun z6 =>
  bif (!z6) then
    (some false)
  else
    (jn (fun (y13 : Bool) (y15 : Int) =>
      some true) fun K17 =>
    impl_Repo_are_l1 x0 x1 K17 (((x1.length : Int) - 0).toNat + 1) false 0)

def impl_SendTake_l2 (x0 : Vm.Repo) (x1 : List Int) (y85 : Int) (u106 : Vm.Commit) (K336 : Bool → Int → List Vm.Commit → List Vm.Head → List Int → Str → List Vm.File → Option (Vm.Repo × Bool)) : Nat → Bool → Int → List Vm.Commit → List Vm.Head → List Int → Str → List Vm.File → Option (Vm.Repo × Bool)
  | 0, _, _, _, _, _, _, _ => none
  | m + 1, y317, y319, y320, y323, y327, y330, y331 =>
    bif decide ((y319 : Int) < ((u106.Parents.length : Int) : Int)) then
      (jn (fun (y345 : Bool) (y347 : List Vm.Commit) (y350 : List Vm.Head) (y354 : List Int) (y357 : Str) (y358 : List Vm.File) =>
        impl_SendTake_l2 x0 x1 y85 u106 K336 m y345 (w64 (y319 + 1)) y347 y350 y354 y357 y358) fun K363 =>
      (gi u106.Parents y319).bind fun u370 =>
      (Vm.impl_within u370 0 (w64 (y85 - 1))).bind fun z373 =>
      bif z373 then
        ((apM y327 [w64 ((x0.Commits.length : Int) + u370)]).bind fun q403 =>
        K363 y317 y320 y323 q403 y330 y331)
      else
        ((Vm.impl_within u370 (w64 (0 - (x1.length : Int))) (-1)).bind fun z432 =>
        bif z432 then
          ((gi x1 (w64 ((-1) - u370))).bind fun u461 =>
          (apM y327 [u461]).bind fun q477 =>
          K363 y317 y320 y323 q477 y330 y331)
        else
          ((Vm.impl_Repo_own x0).bind fun z507 =>
          some (Vm.Repo.mk z507.Commits z507.Heads, false))))
    else
      (K336 y317 y319 y320 y323 y327 y330 y331)

def impl_SendTake_l1 (x0 : Vm.Repo) (x1 : List Int) (x2 : List Vm.Commit) (K101 : Bool → Int → Int → List Vm.Commit → List Vm.Head → List Vm.Commit → List Vm.Head → Option (Vm.Repo × Bool)) : Nat → Bool → Int → Int → List Vm.Commit → List Vm.Head → List Vm.Commit → List Vm.Head → Option (Vm.Repo × Bool)
  | 0, _, _, _, _, _, _, _ => none
  | m + 1, y79, y80, y85, y86, y89, y93, y96 =>
    bif decide ((y85 : Int) < ((x2.length : Int) : Int)) then
      ((gi x2 y85).bind fun u106 =>
      (Vm.impl_copyTree u106.Tree).bind fun z145 =>
      jn (fun (y317 : Bool) (y319 : Int) (y320 : List Vm.Commit) (y323 : List Vm.Head) (y327 : List Int) (y330 : Str) (y331 : List Vm.File) =>
        (apM y93 [Vm.Commit.mk y327 y330 y331]).bind fun q577 =>
        impl_SendTake_l1 x0 x1 x2 K101 m y317 (y93.length : Int) (w64 (y85 + 1)) y320 y323 q577 y96) fun K336 =>
      impl_SendTake_l2 x0 x1 y85 u106 K336 (((u106.Parents.length : Int) - 0).toNat + 1) y79 0 y86 y89 ([] : List Int) u106.Who z145)
    else
      (K101 y79 y80 y85 y86 y89 y93 y96)

def impl_SendTake (x0 : Vm.Repo) (x1 : List Int) (x2 : List Vm.Commit) (x3 : Str) : Option (Vm.Repo × Bool) :=
  (Vm.impl_RepoOk x0).bind fun z9 =>
  bif (!z9) then
    (some (Vm.Repo.mk ([] : List Commit) ([] : List Head), false))
  else
    (jn (fun (y19 : Bool) =>
      bif y19 then
        ((Vm.impl_Repo_own x0).bind fun z28 =>
        some (Vm.Repo.mk z28.Commits z28.Heads, false))
      else
        ((Vm.impl_Repo_own x0).bind fun z51 =>
        jn (fun (y69 : Int) =>
          jn (fun (y79 : Bool) (y80 : Int) (y85 : Int) (y86 : List Vm.Commit) (y89 : List Vm.Head) (y93 : List Vm.Commit) (y96 : List Vm.Head) =>
            (Vm.impl_Repo_point (Vm.Repo.mk y93 y96) x3 y80).bind fun z610 =>
            (Vm.impl_Repo_tried x0 (Vm.Repo.mk z610.Commits z610.Heads)).bind fun z622 =>
            some (Vm.Repo.mk z622.1.Commits z622.1.Heads, z622.2)) fun K101 =>
          impl_SendTake_l1 x0 x1 x2 K101 (((x2.length : Int) - 0).toNat + 1) false y69 0 ([] : List Commit) ([] : List Head) z51.Commits z51.Heads) fun K71 =>
        bif decide ((0 : Int) < ((x1.length : Int) : Int)) then
          ((gi x1 0).bind fun u657 =>
          K71 u657)
        else
          (K71 (-1)))) fun K21 =>
    bif decide ((16 : Int) < ((x1.length : Int) : Int)) then
      (K21 true)
    else
      ((Vm.impl_Repo_are x0 x1).bind fun z664 =>
      bif (!z664) then
        (K21 true)
      else
        (K21 ((w64 ((x2.length : Int) + (x1.length : Int)) : Int) == (0 : Int)))))

def laws_FnExactSendTake (x0 : Vm.Repo) (x1 : List Int) (x2 : List Vm.Commit) (x3 : Str) : Option (Bool) :=
  bif decide ((1048576 : Int) < ((x1.length : Int) : Int)) then
    (some true)
  else
    (bif decide ((1048576 : Int) < ((x3.length : Int) : Int)) then
      (some true)
    else
      ((Vm.laws_szRepo x0 1048576).bind fun z8 =>
      bif decide ((z8 : Int) < (0 : Int)) then
        (some true)
      else
        ((Vm.laws_szCommitS x2 z8).bind fun z15 =>
        bif decide ((z15 : Int) < (0 : Int)) then
          (some true)
        else
          ((Vm.laws_toRepo x0).bind fun z23 =>
          (Vm.laws_toIntS x1).bind fun z29 =>
          (Vm.laws_toCommitS x2).bind fun z37 =>
          (Vm.spec_SendTake (Vm.Repo.mk z23.Commits z23.Heads) z29 z37 x3).bind fun z45 =>
          (Vm.laws_toRepo x0).bind fun z72 =>
          (Vm.laws_toIntS x1).bind fun z103 =>
          (Vm.laws_toCommitS x2).bind fun z117 =>
          (Vm.impl_SendTake (Vm.Repo.mk z72.Commits z72.Heads) z103 z117 x3).bind fun z132 =>
          jn (fun (y177 : Bool) =>
            bif y177 then
              (some false)
            else
              ((Vm.laws_toRepo x0).bind fun z214 =>
              (Vm.laws_eqRepo (Vm.Repo.mk z72.Commits z72.Heads) (Vm.Repo.mk z214.Commits z214.Heads)).bind fun z232 =>
              bif (!z232) then
                (some false)
              else
                ((Vm.laws_toIntS x1).bind fun z254 =>
                (Vm.laws_eqIntS z103 z254).bind fun z274 =>
                bif (!z274) then
                  (some false)
                else
                  ((Vm.laws_toCommitS x2).bind fun z297 =>
                  (Vm.laws_eqCommitS z117 z297).bind fun z318 =>
                  bif (!z318) then
                    (some false)
                  else
                    ((Vm.laws_markRepo (Vm.Repo.mk z72.Commits z72.Heads) 1).bind fun z341 =>
                    (Vm.laws_markIntS z103 z341.1).bind fun z361 =>
                    (Vm.laws_markCommitS z117 z361.1).bind fun z382 =>
                    jn (fun (y403 : Bool) =>
                      bif y403 then
                        (some false)
                      else
                        ((Vm.laws_markRepo (Vm.Repo.mk z132.1.Commits z132.1.Heads) 1).bind fun z426 =>
                        (Vm.laws_heldRepo (Vm.Repo.mk z426.2.Commits z426.2.Heads) 1).bind fun z446 =>
                        bif decide ((z446 : Int) < (0 : Int)) then
                          (some false)
                        else
                          (bif ((z446 : Int) != (z426.1 : Int)) then
                            (some false)
                          else
                            ((Vm.laws_toRepo x0).bind fun z472 =>
                            (Vm.laws_toIntS x1).bind fun z495 =>
                            (Vm.laws_toCommitS x2).bind fun z520 =>
                            (Vm.impl_SendTake (Vm.Repo.mk z472.Commits z472.Heads) z495 z520 x3).bind fun z546 =>
                            jn (fun (y624 : Bool) =>
                              bif y624 then
                                (some false)
                              else
                                ((Vm.laws_heldRepo (Vm.Repo.mk z426.2.Commits z426.2.Heads) 1).bind fun z654 =>
                                bif decide ((z654 : Int) < (0 : Int)) then
                                  (some false)
                                else
                                  (bif ((z654 : Int) != (z426.1 : Int)) then
                                    (some false)
                                  else
                                    (some true)))) fun K626 =>
                            (Vm.laws_eqRepo (Vm.Repo.mk z546.1.Commits z546.1.Heads) z45.1).bind fun z687 =>
                            bif (!z687) then
                              (K626 true)
                            else
                              (K626 (z546.2 != z45.2)))))) fun K405 =>
                    bif decide ((z382.1 : Int) < (0 : Int)) then
                      (K405 true)
                    else
                      ((Vm.laws_eqRepo (Vm.Repo.mk z132.1.Commits z132.1.Heads) z45.1).bind fun z720 =>
                      bif (!z720) then
                        (K405 true)
                      else
                        (K405 (z132.2 != z45.2)))))))) fun K179 =>
          (Vm.laws_eqRepo (Vm.Repo.mk z132.1.Commits z132.1.Heads) z45.1).bind fun z745 =>
          bif (!z745) then
            (K179 true)
          else
            (K179 (z132.2 != z45.2))))))

end Go.Vm
