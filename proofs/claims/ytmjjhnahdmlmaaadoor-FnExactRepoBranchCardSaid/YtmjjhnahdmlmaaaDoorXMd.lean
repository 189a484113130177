/- Models of the functions: plain Lean, printed by a program of ours. Conditions: none. -/
import Derived.Test.YtmjjhnahdmlmaaaDoorXLw
import Derived.Lib.SplitLaws
import Derived.Lib.IndexMore
import Derived.Lib.Join
import Derived.Lib.ItoaNum
namespace Go.Vm
open Go Go.Sx
set_option linter.unusedVariables false
set_option linter.unusedSimpArgs false

def laws_szIntS (x0 : List Int) (x1 : Int) : Option (Int) :=
  bif decide ((w64 (x1 - (x0.length : Int)) : Int) < (0 : Int)) then
    (some (-1))
  else
    (some (w64 (x1 - (x0.length : Int))))

def laws_szStringS_l1 (x0 : List Str) (K6 : Int → Int → Int → Option (Int)) : Nat → Int → Int → Int → Option (Int)
  | 0, _, _, _ => none
  | m + 1, y2, y3, y4 =>
    bif decide ((y4 : Int) < ((x0.length : Int) : Int)) then
      ((gi x0 y4).bind fun u11 =>
      bif decide ((w64 (y2 - (u11.length : Int)) : Int) < (0 : Int)) then
        (some (-1))
      else
        (laws_szStringS_l1 x0 K6 m (w64 (y2 - (u11.length : Int))) y3 (w64 (y4 + 1))))
    else
      (K6 y2 y3 y4)

def laws_szStringS (x0 : List Str) (x1 : Int) : Option (Int) :=
  bif decide ((w64 (x1 - (x0.length : Int)) : Int) < (0 : Int)) then
    (some (-1))
  else
    (jn (fun (y2 : Int) (y3 : Int) (y4 : Int) =>
      some y2) fun K6 =>
    laws_szStringS_l1 x0 K6 (((x0.length : Int) - 0).toNat + 1) (w64 (x1 - (x0.length : Int))) 0 0)

def laws_szFile (x0 : Vm.File) (x1 : Int) : Option (Int) :=
  bif decide ((w64 (x1 - (x0.Path.length : Int)) : Int) < (0 : Int)) then
    (some (-1))
  else
    ((Vm.laws_szStringS x0.Text (w64 (x1 - (x0.Path.length : Int)))).bind fun z5 =>
    bif decide ((z5 : Int) < (0 : Int)) then
      (some (-1))
    else
      (some z5))

def laws_szFileS_l1 (x0 : List Vm.File) (K6 : Int → Int → Int → Option (Int)) : Nat → Int → Int → Int → Option (Int)
  | 0, _, _, _ => none
  | m + 1, y2, y3, y4 =>
    bif decide ((y4 : Int) < ((x0.length : Int) : Int)) then
      ((gi x0 y4).bind fun u11 =>
      (Vm.laws_szFile u11 y2).bind fun z18 =>
      bif decide ((z18 : Int) < (0 : Int)) then
        (some (-1))
      else
        (laws_szFileS_l1 x0 K6 m z18 y3 (w64 (y4 + 1))))
    else
      (K6 y2 y3 y4)

def laws_szFileS (x0 : List Vm.File) (x1 : Int) : Option (Int) :=
  bif decide ((w64 (x1 - (x0.length : Int)) : Int) < (0 : Int)) then
    (some (-1))
  else
    (jn (fun (y2 : Int) (y3 : Int) (y4 : Int) =>
      some y2) fun K6 =>
    laws_szFileS_l1 x0 K6 (((x0.length : Int) - 0).toNat + 1) (w64 (x1 - (x0.length : Int))) 0 0)

def laws_szCommit (x0 : Vm.Commit) (x1 : Int) : Option (Int) :=
  (Vm.laws_szIntS x0.Parents x1).bind fun z4 =>
  bif decide ((z4 : Int) < (0 : Int)) then
    (some (-1))
  else
    (bif decide ((w64 (z4 - (x0.Who.length : Int)) : Int) < (0 : Int)) then
      (some (-1))
    else
      ((Vm.laws_szFileS x0.Tree (w64 (z4 - (x0.Who.length : Int)))).bind fun z12 =>
      bif decide ((z12 : Int) < (0 : Int)) then
        (some (-1))
      else
        (some z12)))

def laws_szCommitS_l1 (x0 : List Vm.Commit) (K6 : Int → Int → Int → Option (Int)) : Nat → Int → Int → Int → Option (Int)
  | 0, _, _, _ => none
  | m + 1, y2, y3, y4 =>
    bif decide ((y4 : Int) < ((x0.length : Int) : Int)) then
      ((gi x0 y4).bind fun u11 =>
      (Vm.laws_szCommit u11 y2).bind fun z20 =>
      bif decide ((z20 : Int) < (0 : Int)) then
        (some (-1))
      else
        (laws_szCommitS_l1 x0 K6 m z20 y3 (w64 (y4 + 1))))
    else
      (K6 y2 y3 y4)

def laws_szCommitS (x0 : List Vm.Commit) (x1 : Int) : Option (Int) :=
  bif decide ((w64 (x1 - (x0.length : Int)) : Int) < (0 : Int)) then
    (some (-1))
  else
    (jn (fun (y2 : Int) (y3 : Int) (y4 : Int) =>
      some y2) fun K6 =>
    laws_szCommitS_l1 x0 K6 (((x0.length : Int) - 0).toNat + 1) (w64 (x1 - (x0.length : Int))) 0 0)

def laws_szHead (x0 : Vm.Head) (x1 : Int) : Option (Int) :=
  bif decide ((w64 (x1 - (x0.Name.length : Int)) : Int) < (0 : Int)) then
    (some (-1))
  else
    (some (w64 (x1 - (x0.Name.length : Int))))

def laws_szHeadS_l1 (x0 : List Vm.Head) (K6 : Int → Int → Int → Option (Int)) : Nat → Int → Int → Int → Option (Int)
  | 0, _, _, _ => none
  | m + 1, y2, y3, y4 =>
    bif decide ((y4 : Int) < ((x0.length : Int) : Int)) then
      ((gi x0 y4).bind fun u11 =>
      (Vm.laws_szHead u11 y2).bind fun z16 =>
      bif decide ((z16 : Int) < (0 : Int)) then
        (some (-1))
      else
        (laws_szHeadS_l1 x0 K6 m z16 y3 (w64 (y4 + 1))))
    else
      (K6 y2 y3 y4)

def laws_szHeadS (x0 : List Vm.Head) (x1 : Int) : Option (Int) :=
  bif decide ((w64 (x1 - (x0.length : Int)) : Int) < (0 : Int)) then
    (some (-1))
  else
    (jn (fun (y2 : Int) (y3 : Int) (y4 : Int) =>
      some y2) fun K6 =>
    laws_szHeadS_l1 x0 K6 (((x0.length : Int) - 0).toNat + 1) (w64 (x1 - (x0.length : Int))) 0 0)

def laws_szRepo (x0 : Vm.Repo) (x1 : Int) : Option (Int) :=
  (Vm.laws_szCommitS x0.Commits x1).bind fun z4 =>
  bif decide ((z4 : Int) < (0 : Int)) then
    (some (-1))
  else
    ((Vm.laws_szHeadS x0.Heads z4).bind fun z11 =>
    bif decide ((z11 : Int) < (0 : Int)) then
      (some (-1))
    else
      (some z11))

def laws_toIntS_l1 (x0 : List Int) (K9 : Int → List Int → Option ((List Int))) : Nat → Int → List Int → Option ((List Int))
  | 0, _, _ => none
  | m + 1, y5, y6 =>
    bif decide ((y5 : Int) < ((x0.length : Int) : Int)) then
      ((gi x0 y5).bind fun u14 =>
      (gi y6 y5).bind fun u16 =>
      (siM y6 y5 u14).bind fun q19 =>
      laws_toIntS_l1 x0 K9 m (w64 (y5 + 1)) q19)
    else
      (K9 y5 y6)

def laws_toIntS (x0 : List Int) : Option ((List Int)) :=
  (mkM (x0.length : Int) (0 : Int)).bind fun q1 =>
  jn (fun (y5 : Int) (y6 : List Int) =>
    some y6) fun K9 =>
  laws_toIntS_l1 x0 K9 (((x0.length : Int) - 0).toNat + 1) 0 q1

def laws_toStringS_l1 (x0 : List Str) (K9 : Int → List Str → Option ((List Str))) : Nat → Int → List Str → Option ((List Str))
  | 0, _, _ => none
  | m + 1, y5, y6 =>
    bif decide ((y5 : Int) < ((x0.length : Int) : Int)) then
      ((gi x0 y5).bind fun u14 =>
      (gi y6 y5).bind fun u16 =>
      (siM y6 y5 u14).bind fun q19 =>
      laws_toStringS_l1 x0 K9 m (w64 (y5 + 1)) q19)
    else
      (K9 y5 y6)

def laws_toStringS (x0 : List Str) : Option ((List Str)) :=
  (mkM (x0.length : Int) (([] : Str) : Str)).bind fun q1 =>
  jn (fun (y5 : Int) (y6 : List Str) =>
    some y6) fun K9 =>
  laws_toStringS_l1 x0 K9 (((x0.length : Int) - 0).toNat + 1) 0 q1

def laws_toFile (x0 : Vm.File) : Option (Vm.File) :=
  (Vm.laws_toStringS x0.Text).bind fun z15 =>
  some (Vm.File.mk x0.Path z15)

def laws_toFileS_l1 (x0 : List Vm.File) (K9 : Int → List Vm.File → Option ((List Vm.File))) : Nat → Int → List Vm.File → Option ((List Vm.File))
  | 0, _, _ => none
  | m + 1, y5, y6 =>
    bif decide ((y5 : Int) < ((x0.length : Int) : Int)) then
      ((gi x0 y5).bind fun u14 =>
      (Vm.laws_toFile u14).bind fun z21 =>
      (gi y6 y5).bind fun u26 =>
      (siM y6 y5 (Vm.File.mk z21.Path z21.Text)).bind fun q29 =>
      laws_toFileS_l1 x0 K9 m (w64 (y5 + 1)) q29)
    else
      (K9 y5 y6)

def laws_toFileS (x0 : List Vm.File) : Option ((List Vm.File)) :=
  (mkM (x0.length : Int) (Vm.File.mk ([] : Str) ([] : List Str) : File)).bind fun q1 =>
  jn (fun (y5 : Int) (y6 : List Vm.File) =>
    some y6) fun K9 =>
  laws_toFileS_l1 x0 K9 (((x0.length : Int) - 0).toNat + 1) 0 q1

def laws_toCommit (x0 : Vm.Commit) : Option (Vm.Commit) :=
  (Vm.laws_toIntS x0.Parents).bind fun z11 =>
  (Vm.laws_toFileS x0.Tree).bind fun z29 =>
  some (Vm.Commit.mk z11 x0.Who z29)

def laws_toCommitS_l1 (x0 : List Vm.Commit) (K9 : Int → List Vm.Commit → Option ((List Vm.Commit))) : Nat → Int → List Vm.Commit → Option ((List Vm.Commit))
  | 0, _, _ => none
  | m + 1, y5, y6 =>
    bif decide ((y5 : Int) < ((x0.length : Int) : Int)) then
      ((gi x0 y5).bind fun u14 =>
      (Vm.laws_toCommit u14).bind fun z23 =>
      (gi y6 y5).bind fun u28 =>
      (siM y6 y5 (Vm.Commit.mk z23.Parents z23.Who z23.Tree)).bind fun q31 =>
      laws_toCommitS_l1 x0 K9 m (w64 (y5 + 1)) q31)
    else
      (K9 y5 y6)

def laws_toCommitS (x0 : List Vm.Commit) : Option ((List Vm.Commit)) :=
  (mkM (x0.length : Int) (Vm.Commit.mk ([] : List Int) ([] : Str) ([] : List File) : Commit)).bind fun q1 =>
  jn (fun (y5 : Int) (y6 : List Vm.Commit) =>
    some y6) fun K9 =>
  laws_toCommitS_l1 x0 K9 (((x0.length : Int) - 0).toNat + 1) 0 q1

def laws_toHead (x0 : Vm.Head) : Option (Vm.Head) :=
  some (Vm.Head.mk x0.Name x0.At)

def laws_toHeadS_l1 (x0 : List Vm.Head) (K9 : Int → List Vm.Head → Option ((List Vm.Head))) : Nat → Int → List Vm.Head → Option ((List Vm.Head))
  | 0, _, _ => none
  | m + 1, y5, y6 =>
    bif decide ((y5 : Int) < ((x0.length : Int) : Int)) then
      ((gi x0 y5).bind fun u14 =>
      (Vm.laws_toHead u14).bind fun z19 =>
      (gi y6 y5).bind fun u24 =>
      (siM y6 y5 z19).bind fun q27 =>
      laws_toHeadS_l1 x0 K9 m (w64 (y5 + 1)) q27)
    else
      (K9 y5 y6)

def laws_toHeadS (x0 : List Vm.Head) : Option ((List Vm.Head)) :=
  (mkM (x0.length : Int) (Vm.Head.mk ([] : Str) 0 : Head)).bind fun q1 =>
  jn (fun (y5 : Int) (y6 : List Vm.Head) =>
    some y6) fun K9 =>
  laws_toHeadS_l1 x0 K9 (((x0.length : Int) - 0).toNat + 1) 0 q1

def laws_toRepo (x0 : Vm.Repo) : Option (Vm.Repo) :=
  (Vm.laws_toCommitS x0.Commits).bind fun z11 =>
  (Vm.laws_toHeadS x0.Heads).bind fun z24 =>
  some (Vm.Repo.mk z11 z24)

def spec_l1In (x0 : Int) (x1 : Int) (x2 : Int) : Option (Bool) :=
  jn (fun (y1 : Bool) =>
    some y1) fun K3 =>
  bif decide ((x1 : Int) ≤ (x0 : Int)) then
    (K3 (decide ((x0 : Int) ≤ (x2 : Int))))
  else
    (K3 false)

def spec_l4Name_l1 (x0 : Str) (K4 : Bool → Int → Option (Bool)) : Nat → Bool → Int → Option (Bool)
  | 0, _, _ => none
  | m + 1, y1, y2 =>
    bif decide ((y2 : Int) < ((x0.length : Int) : Int)) then
      (jn (fun (y8 : Bool) =>
        bif y8 then
          (some false)
        else
          (spec_l4Name_l1 x0 K4 m y1 (w64 (y2 + 1)))) fun K10 =>
      (chM x0 y2).bind fun u13 =>
      bif decide (((UInt8.toNat u13 : Int) : Int) < (97 : Int)) then
        ((chM x0 y2).bind fun u16 =>
        bif decide (((UInt8.toNat u16 : Int) : Int) < (48 : Int)) then
          (K10 true)
        else
          ((chM x0 y2).bind fun u19 =>
          K10 (decide ((57 : Int) < ((UInt8.toNat u19 : Int) : Int)))))
      else
        ((chM x0 y2).bind fun u21 =>
        bif decide ((122 : Int) < ((UInt8.toNat u21 : Int) : Int)) then
          ((chM x0 y2).bind fun u24 =>
          bif decide (((UInt8.toNat u24 : Int) : Int) < (48 : Int)) then
            (K10 true)
          else
            ((chM x0 y2).bind fun u27 =>
            K10 (decide ((57 : Int) < ((UInt8.toNat u27 : Int) : Int)))))
        else
          (K10 false)))
    else
      (K4 y1 y2)

def spec_l4Name (x0 : Str) : Option (Bool) :=
  jn (fun (y1 : Bool) (y2 : Int) =>
    (Vm.spec_l1In (x0.length : Int) 1 6).bind fun z29 =>
    some z29) fun K4 =>
  spec_l4Name_l1 x0 K4 (((x0.length : Int) - 0).toNat + 1) false 0

def spec_l1Cut_l1 (x0 : Str) (x1 : Byte) (x2 : Int) (K9 : List Str → Int → Int → Option ((List Str))) : Nat → List Str → Int → Int → Option ((List Str))
  | 0, _, _, _ => none
  | m + 1, y3, y6, y7 =>
    jn (fun (y12 : Bool) =>
      bif y12 then
        (jn (fun (y18 : List Str) (y21 : Int) =>
          spec_l1Cut_l1 x0 x1 x2 K9 m y18 y21 (w64 (y7 + 1))) fun K23 =>
        (chM x0 y7).bind fun u25 =>
        bif (((UInt8.toNat u25 : Int) : Int) == ((UInt8.toNat x1 : Int) : Int)) then
          ((slM x0 y6 y7).bind fun q28 =>
          (apM y3 [q28]).bind fun q33 =>
          K23 q33 (w64 (y7 + 1)))
        else
          (K23 y3 y6))
      else
        (K9 y3 y6 y7)) fun K14 =>
    bif decide ((y7 : Int) < ((x0.length : Int) : Int)) then
      (K14 (decide (((y3.length : Int) : Int) < (x2 : Int))))
    else
      (K14 false)

def spec_l1Cut (x0 : Str) (x1 : Byte) (x2 : Int) : Option ((List Str)) :=
  jn (fun (y3 : List Str) (y6 : Int) (y7 : Int) =>
    (slM x0 y6 (x0.length : Int)).bind fun q38 =>
    (apM y3 [q38]).bind fun q43 =>
    some q43) fun K9 =>
  spec_l1Cut_l1 x0 x1 x2 K9 (x0.length + 1) ([] : List Str) 0 0

def spec_l4Path_l1 (z1 : (List Str)) (K8 : Bool → Int → Option (Bool)) : Nat → Bool → Int → Option (Bool)
  | 0, _, _ => none
  | m + 1, y5, y6 =>
    bif decide ((y6 : Int) < ((z1.length : Int) : Int)) then
      ((gi z1 y6).bind fun u13 =>
      (Vm.spec_l4Name u13).bind fun z15 =>
      bif (!z15) then
        (some false)
      else
        (spec_l4Path_l1 z1 K8 m y5 (w64 (y6 + 1))))
    else
      (K8 y5 y6)

def spec_l4Path (x0 : Str) : Option (Bool) :=
  (Vm.spec_l1Cut x0 (UInt8.ofNatLT 47 (by decide) : Byte) 3).bind fun z1 =>
  jn (fun (y5 : Bool) (y6 : Int) =>
    some (decide (((z1.length : Int) : Int) ≤ (3 : Int)))) fun K8 =>
  spec_l4Path_l1 z1 K8 (((z1.length : Int) - 0).toNat + 1) false 0

def spec_l1Line_l1 (x0 : Str) (K4 : Bool → Int → Option (Bool)) : Nat → Bool → Int → Option (Bool)
  | 0, _, _ => none
  | m + 1, y1, y2 =>
    bif decide ((y2 : Int) < ((x0.length : Int) : Int)) then
      (jn (fun (y8 : Bool) =>
        bif y8 then
          (some false)
        else
          (spec_l1Line_l1 x0 K4 m y1 (w64 (y2 + 1)))) fun K10 =>
      (chM x0 y2).bind fun u13 =>
      bif decide (((UInt8.toNat u13 : Int) : Int) < (32 : Int)) then
        (K10 true)
      else
        ((chM x0 y2).bind fun u16 =>
        K10 (decide ((126 : Int) < ((UInt8.toNat u16 : Int) : Int)))))
    else
      (K4 y1 y2)

def spec_l1Line (x0 : Str) : Option (Bool) :=
  jn (fun (y1 : Bool) (y2 : Int) =>
    some (decide (((x0.length : Int) : Int) ≤ (12 : Int)))) fun K4 =>
  spec_l1Line_l1 x0 K4 (((x0.length : Int) - 0).toNat + 1) false 0

def spec_l1Ok_l1 (x0 : List Str) (K4 : Bool → Int → Option (Bool)) : Nat → Bool → Int → Option (Bool)
  | 0, _, _ => none
  | m + 1, y1, y2 =>
    bif decide ((y2 : Int) < ((x0.length : Int) : Int)) then
      ((gi x0 y2).bind fun u9 =>
      (Vm.spec_l1Line u9).bind fun z11 =>
      bif (!z11) then
        (some false)
      else
        (spec_l1Ok_l1 x0 K4 m y1 (w64 (y2 + 1))))
    else
      (K4 y1 y2)

def spec_l1Ok (x0 : List Str) : Option (Bool) :=
  jn (fun (y1 : Bool) (y2 : Int) =>
    some (decide (((x0.length : Int) : Int) ≤ (10 : Int)))) fun K4 =>
  spec_l1Ok_l1 x0 K4 (((x0.length : Int) - 0).toNat + 1) false 0

def spec_l4In (x0 : Str) (x1 : Str) : Option (Bool) :=
  jn (fun (y1 : Bool) =>
    some y1) fun K3 =>
  bif decide (((x0.length : Int) : Int) < ((x1.length : Int) : Int)) then
    ((slM x1 0 (x0.length : Int)).bind fun q6 =>
    bif (q6 == x0) then
      ((chM x1 (x0.length : Int)).bind fun u9 =>
      K3 (((UInt8.toNat u9 : Int) : Int) == (47 : Int)))
    else
      (K3 false))
  else
    (K3 false)

def spec_l4Ok_l2 (x0 : List Vm.File) (y2 : Int) (K18 : Bool → Int → Option (Bool)) : Nat → Bool → Int → Option (Bool)
  | 0, _, _ => none
  | m + 1, y15, y16 =>
    bif decide ((y16 : Int) < ((x0.length : Int) : Int)) then
      ((gi x0 y2).bind fun u25 =>
      (gi x0 y16).bind fun u28 =>
      (Vm.spec_l4In u25.Path u28.Path).bind fun z30 =>
      bif z30 then
        (some false)
      else
        (spec_l4Ok_l2 x0 y2 K18 m y15 (w64 (y16 + 1))))
    else
      (K18 y15 y16)

def spec_l4Ok_l1 (x0 : List Vm.File) (K5 : Bool → Int → Option (Bool)) : Nat → Bool → Int → Option (Bool)
  | 0, _, _ => none
  | m + 1, y1, y2 =>
    bif decide ((y2 : Int) < ((x0.length : Int) : Int)) then
      (jn (fun (y10 : Bool) =>
        bif y10 then
          (some false)
        else
          (jn (fun (y15 : Bool) (y16 : Int) =>
            spec_l4Ok_l1 x0 K5 m y15 (w64 (y2 + 1))) fun K18 =>
          spec_l4Ok_l2 x0 y2 K18 (((x0.length : Int) - 0).toNat + 1) y1 0)) fun K12 =>
      (gi x0 y2).bind fun u37 =>
      (Vm.spec_l4Path u37.Path).bind fun z40 =>
      bif (!z40) then
        (K12 true)
      else
        ((gi x0 y2).bind fun u45 =>
        (Vm.spec_l1Ok u45.Text).bind fun z51 =>
        bif (!z51) then
          (K12 true)
        else
          (bif decide ((0 : Int) < (y2 : Int)) then
            ((gi x0 y2).bind fun u57 =>
            (gi x0 (w64 (y2 - 1))).bind fun u59 =>
            K12 (Op.bytesLess u57.Path u59.Path || u57.Path == u59.Path))
          else
            (K12 false))))
    else
      (K5 y1 y2)

def spec_l4Ok (x0 : List Vm.File) : Option (Bool) :=
  jn (fun (y1 : Bool) (y2 : Int) =>
    some (decide (((x0.length : Int) : Int) ≤ (8 : Int)))) fun K5 =>
  spec_l4Ok_l1 x0 K5 (((x0.length : Int) - 0).toNat + 1) false 0

def spec_l7Ok_l2 (y4 : Int) (u14 : Vm.Commit) (K32 : Bool → Int → Option (Bool)) : Nat → Bool → Int → Option (Bool)
  | 0, _, _ => none
  | m + 1, y29, y30 =>
    bif decide ((y30 : Int) < ((u14.Parents.length : Int) : Int)) then
      (jn (fun (y39 : Bool) =>
        bif y39 then
          (some false)
        else
          (spec_l7Ok_l2 y4 u14 K32 m y29 (w64 (y30 + 1)))) fun K41 =>
      (gi u14.Parents y30).bind fun u50 =>
      (Vm.spec_l1In u50 0 (w64 (y4 - 1))).bind fun z53 =>
      bif (!z53) then
        (K41 true)
      else
        (bif decide ((0 : Int) < (y30 : Int)) then
          ((gi u14.Parents y30).bind fun u61 =>
          (gi u14.Parents 0).bind fun u63 =>
          K41 ((u61 : Int) == (u63 : Int)))
        else
          (K41 false)))
    else
      (K32 y29 y30)

def spec_l7Ok_l3 (x0 : Vm.Repo) (K90 : Bool → Int → Option (Bool)) : Nat → Bool → Int → Option (Bool)
  | 0, _, _ => none
  | m + 1, y87, y88 =>
    bif decide ((y88 : Int) < ((x0.Heads.length : Int) : Int)) then
      (jn (fun (y96 : Bool) =>
        bif y96 then
          (some false)
        else
          (spec_l7Ok_l3 x0 K90 m y87 (w64 (y88 + 1)))) fun K98 =>
      (gi x0.Heads y88).bind fun u105 =>
      (Vm.spec_l4Name u105.Name).bind fun z108 =>
      bif (!z108) then
        (K98 true)
      else
        ((gi x0.Heads y88).bind fun u114 =>
        (Vm.spec_l1In u114.At 0 (w64 ((x0.Commits.length : Int) - 1))).bind fun z117 =>
        bif (!z117) then
          (K98 true)
        else
          (bif decide ((0 : Int) < (y88 : Int)) then
            ((gi x0.Heads y88).bind fun u124 =>
            (gi x0.Heads (w64 (y88 - 1))).bind fun u126 =>
            K98 (Op.bytesLess u124.Name u126.Name || u124.Name == u126.Name))
          else
            (K98 false))))
    else
      (K90 y87 y88)

def spec_l7Ok_l1 (x0 : Vm.Repo) (K8 : Bool → Int → Option (Bool)) : Nat → Bool → Int → Option (Bool)
  | 0, _, _ => none
  | m + 1, y3, y4 =>
    bif decide ((y4 : Int) < ((x0.Commits.length : Int) : Int)) then
      ((gi x0.Commits y4).bind fun u14 =>
      jn (fun (y29 : Bool) (y30 : Int) =>
        jn (fun (y65 : Bool) =>
          bif y65 then
            (some false)
          else
            (spec_l7Ok_l1 x0 K8 m y29 (w64 (y4 + 1)))) fun K67 =>
        bif decide ((2 : Int) < ((u14.Parents.length : Int) : Int)) then
          (K67 true)
        else
          ((Vm.spec_l4Name u14.Who).bind fun z73 =>
          bif (!z73) then
            (K67 true)
          else
            ((Vm.spec_l4Ok u14.Tree).bind fun z81 =>
            K67 (!z81)))) fun K32 =>
      spec_l7Ok_l2 y4 u14 K32 (((u14.Parents.length : Int) - 0).toNat + 1) y3 0)
    else
      (K8 y3 y4)

def spec_l7Ok (x0 : Vm.Repo) : Option (Bool) :=
  jn (fun (y3 : Bool) (y4 : Int) =>
    jn (fun (y87 : Bool) (y88 : Int) =>
      jn (fun (y128 : Bool) =>
        some y128) fun K130 =>
      bif decide (((x0.Commits.length : Int) : Int) ≤ (16 : Int)) then
        (K130 (decide (((x0.Heads.length : Int) : Int) ≤ (5 : Int))))
      else
        (K130 false)) fun K90 =>
    spec_l7Ok_l3 x0 K90 (((x0.Heads.length : Int) - 0).toNat + 1) y3 0) fun K8 =>
  spec_l7Ok_l1 x0 K8 (((x0.Commits.length : Int) - 0).toNat + 1) false 0

def spec_l4Copy_l1 (x0 : List Vm.File) (K8 : List Vm.File → Int → Option ((List Vm.File))) : Nat → List Vm.File → Int → Option ((List Vm.File))
  | 0, _, _ => none
  | m + 1, y3, y6 =>
    bif decide ((y6 : Int) < ((x0.length : Int) : Int)) then
      ((gi x0 y6).bind fun u16 =>
      (gi x0 y6).bind fun u19 =>
      (apM ([] : List Str) u19.Text).bind fun q27 =>
      (apM y3 [Vm.File.mk u16.Path q27]).bind fun q37 =>
      spec_l4Copy_l1 x0 K8 m q37 (w64 (y6 + 1)))
    else
      (K8 y3 y6)

def spec_l4Copy (x0 : List Vm.File) : Option ((List Vm.File)) :=
  jn (fun (y3 : List Vm.File) (y6 : Int) =>
    some y3) fun K8 =>
  spec_l4Copy_l1 x0 K8 (((x0.length : Int) - 0).toNat + 1) ([] : List File) 0

def spec_l7CopyCommit (x0 : Vm.Commit) : Option (Vm.Commit) :=
  (apM ([] : List Int) x0.Parents).bind fun q14 =>
  (Vm.spec_l4Copy x0.Tree).bind fun z22 =>
  some (Vm.Commit.mk q14 x0.Who z22)

def spec_l7Copy_l1 (x0 : Vm.Repo) (K36 : Int → List Vm.Commit → List Vm.Head → Option (Vm.Repo)) : Nat → Int → List Vm.Commit → List Vm.Head → Option (Vm.Repo)
  | 0, _, _, _ => none
  | m + 1, y27, y28, y31 =>
    bif decide ((y27 : Int) < ((x0.Commits.length : Int) : Int)) then
      ((gi x0.Commits y27).bind fun u50 =>
      (Vm.spec_l7CopyCommit u50).bind fun z60 =>
      (apM y28 [Vm.Commit.mk z60.Parents z60.Who z60.Tree]).bind fun q78 =>
      spec_l7Copy_l1 x0 K36 m (w64 (y27 + 1)) q78 y31)
    else
      (K36 y27 y28 y31)

def spec_l7Copy (x0 : Vm.Repo) : Option (Vm.Repo) :=
  (apM ([] : List Head) x0.Heads).bind fun q10 =>
  jn (fun (y27 : Int) (y28 : List Vm.Commit) (y31 : List Vm.Head) =>
    some (Vm.Repo.mk y28 y31)) fun K36 =>
  spec_l7Copy_l1 x0 K36 (((x0.Commits.length : Int) - 0).toNat + 1) 0 ([] : List Commit) q10

def spec_l7Head_l1 (x0 : Vm.Repo) (x1 : Str) (x2 : Int) (K24 : Bool → Int → List Vm.Commit → List Vm.Head → Option (Vm.Repo)) : Nat → Bool → Int → List Vm.Commit → List Vm.Head → Option (Vm.Repo)
  | 0, _, _, _, _ => none
  | m + 1, y14, y15, y16, y19 =>
    bif decide ((y15 : Int) < ((x0.Heads.length : Int) : Int)) then
      (jn (fun (y32 : Bool) (y33 : List Vm.Commit) (y36 : List Vm.Head) =>
        spec_l7Head_l1 x0 x1 x2 K24 m y32 (w64 (y15 + 1)) y33 y36) fun K41 =>
      jn (fun (y45 : Bool) (y46 : List Vm.Commit) (y49 : List Vm.Head) =>
        (gi x0.Heads y15).bind fun u58 =>
        bif (u58.Name != x1) then
          ((gi x0.Heads y15).bind fun u68 =>
          (apM y49 [u68]).bind fun q80 =>
          K41 y45 y46 q80)
        else
          (K41 y45 y46 y49)) fun K54 =>
      jn (fun (y95 : Bool) =>
        bif y95 then
          ((apM y19 [Vm.Head.mk x1 x2]).bind fun q110 =>
          K54 true y16 q110)
        else
          (K54 y14 y16 y19)) fun K97 =>
      bif (!y14) then
        ((gi x0.Heads y15).bind fun u127 =>
        K97 (!Op.bytesLess u127.Name x1))
      else
        (K97 false))
    else
      (K24 y14 y15 y16 y19)

def spec_l7Head (x0 : Vm.Repo) (x1 : Str) (x2 : Int) : Option (Vm.Repo) :=
  jn (fun (y14 : Bool) (y15 : Int) (y16 : List Vm.Commit) (y19 : List Vm.Head) =>
    jn (fun (y129 : List Vm.Commit) (y132 : List Vm.Head) =>
      some (Vm.Repo.mk y129 y132)) fun K137 =>
    bif (!y14) then
      ((apM y19 [Vm.Head.mk x1 x2]).bind fun q160 =>
      K137 y16 q160)
    else
      (K137 y16 y19)) fun K24 =>
  spec_l7Head_l1 x0 x1 x2 K24 (((x0.Heads.length : Int) - 0).toNat + 1) false 0 x0.Commits ([] : List Head)

def spec_l7At_l1 (x0 : Vm.Repo) (x1 : Str) (K6 : Int → Int → Option (Int)) : Nat → Int → Int → Option (Int)
  | 0, _, _ => none
  | m + 1, y3, y4 =>
    bif decide ((y4 : Int) < ((x0.Heads.length : Int) : Int)) then
      ((gi x0.Heads y4).bind fun u12 =>
      bif (u12.Name == x1) then
        ((gi x0.Heads y4).bind fun u15 =>
        some u15.At)
      else
        (spec_l7At_l1 x0 x1 K6 m y3 (w64 (y4 + 1))))
    else
      (K6 y3 y4)

def spec_l7At (x0 : Vm.Repo) (x1 : Str) : Option (Int) :=
  jn (fun (y3 : Int) (y4 : Int) =>
    some (-1)) fun K6 =>
  spec_l7At_l1 x0 x1 K6 (((x0.Heads.length : Int) - 0).toNat + 1) 0 0

def spec_RepoBranch (x0 : Vm.Repo) (x1 : Str) (x2 : Int) : Option (Vm.Repo × Bool) :=
  (Vm.spec_l7Ok x0).bind fun z8 =>
  bif (!z8) then
    (some (Vm.Repo.mk ([] : List Commit) ([] : List Head), false))
  else
    ((Vm.spec_l7Copy x0).bind fun z20 =>
    (Vm.spec_l7Head (Vm.Repo.mk z20.Commits z20.Heads) x1 x2).bind fun z26 =>
    jn (fun (y48 : Bool) =>
      bif y48 then
        ((Vm.spec_l7Copy x0).bind fun z60 =>
        some (Vm.Repo.mk z60.Commits z60.Heads, false))
      else
        (some (z26, true))) fun K50 =>
    (Vm.spec_l7At x0 x1).bind fun z122 =>
    bif decide ((0 : Int) ≤ (z122 : Int)) then
      (K50 true)
    else
      ((Vm.spec_l7Ok z26).bind fun z134 =>
      K50 (!z134)))

def impl_within (x0 : Int) (x1 : Int) (x2 : Int) : Option (Bool) :=
  jn (fun (y1 : Bool) =>
    some y1) fun K3 =>
  bif decide ((x1 : Int) ≤ (x0 : Int)) then
    (K3 (decide ((x0 : Int) ≤ (x2 : Int))))
  else
    (K3 false)

def impl_wordByte (x0 : Byte) : Option (Bool) :=
  jn (fun (y1 : Bool) =>
    some y1) fun K3 =>
  bif decide ((97 : Int) ≤ ((UInt8.toNat x0 : Int) : Int)) then
    (bif decide (((UInt8.toNat x0 : Int) : Int) ≤ (122 : Int)) then
      (K3 true)
    else
      (bif decide ((48 : Int) ≤ ((UInt8.toNat x0 : Int) : Int)) then
        (K3 (decide (((UInt8.toNat x0 : Int) : Int) ≤ (57 : Int))))
      else
        (K3 false)))
  else
    (bif decide ((48 : Int) ≤ ((UInt8.toNat x0 : Int) : Int)) then
      (K3 (decide (((UInt8.toNat x0 : Int) : Int) ≤ (57 : Int))))
    else
      (K3 false))

def impl_nameOk_l1 (x0 : Str) (K9 : Bool → Int → Option (Bool)) : Nat → Bool → Int → Option (Bool)
  | 0, _, _ => none
  | m + 1, y6, y7 =>
    bif decide ((y7 : Int) < ((x0.length : Int) : Int)) then
      ((chM x0 y7).bind fun u13 =>
      (Vm.impl_wordByte u13).bind fun z15 =>
      bif (!z15) then
        (some false)
      else
        (impl_nameOk_l1 x0 K9 m y6 (w64 (y7 + 1))))
    else
      (K9 y6 y7)

def impl_nameOk (x0 : Str) : Option (Bool) :=
  (Vm.impl_within (x0.length : Int) 1 6).bind fun z1 =>
  bif (!z1) then
    (some false)
  else
    (jn (fun (y6 : Bool) (y7 : Int) =>
      some true) fun K9 =>
    impl_nameOk_l1 x0 K9 (((x0.length : Int) - 0).toNat + 1) false 0)

def impl_lineOk_l1 (x0 : Str) (K5 : Bool → Int → Option (Bool)) : Nat → Bool → Int → Option (Bool)
  | 0, _, _ => none
  | m + 1, y2, y3 =>
    bif decide ((y3 : Int) < ((x0.length : Int) : Int)) then
      (jn (fun (y9 : Bool) =>
        bif y9 then
          (some false)
        else
          (impl_lineOk_l1 x0 K5 m y2 (w64 (y3 + 1)))) fun K11 =>
      (chM x0 y3).bind fun u14 =>
      bif decide (((UInt8.toNat u14 : Int) : Int) < (32 : Int)) then
        (K11 true)
      else
        ((chM x0 y3).bind fun u17 =>
        K11 (decide ((126 : Int) < ((UInt8.toNat u17 : Int) : Int)))))
    else
      (K5 y2 y3)

def impl_lineOk (x0 : Str) : Option (Bool) :=
  bif decide ((12 : Int) < ((x0.length : Int) : Int)) then
    (some false)
  else
    (jn (fun (y2 : Bool) (y3 : Int) =>
      some true) fun K5 =>
    impl_lineOk_l1 x0 K5 (((x0.length : Int) - 0).toNat + 1) false 0)

def impl_TextOk_l1 (x0 : List Str) (K6 : Bool → Int → Option (Bool)) : Nat → Bool → Int → Option (Bool)
  | 0, _, _ => none
  | m + 1, y2, y4 =>
    bif decide ((y4 : Int) < ((x0.length : Int) : Int)) then
      ((gi x0 y4).bind fun u10 =>
      (Vm.impl_lineOk u10).bind fun z13 =>
      bif (!z13) then
        (some false)
      else
        (impl_TextOk_l1 x0 K6 m y2 (w64 (y4 + 1))))
    else
      (K6 y2 y4)

def impl_TextOk (x0 : List Str) : Option (Bool) :=
  bif decide ((10 : Int) < ((x0.length : Int) : Int)) then
    (some false)
  else
    (jn (fun (y2 : Bool) (y4 : Int) =>
      some true) fun K6 =>
    impl_TextOk_l1 x0 K6 (((x0.length : Int) - 0).toNat + 1) false 0)

def strings_Split (x0 : Str) (x1 : Str) : Option ((List Str)) :=
  if x0.length ≤ 4294967000 ∧ 1 ≤ x1.length then some (Go.Lib.split x0 x1) else none

def impl_PathOk_l1 (z1 : (List Str)) (K10 : Bool → Int → Option (Bool)) : Nat → Bool → Int → Option (Bool)
  | 0, _, _ => none
  | m + 1, y6, y8 =>
    bif decide ((y8 : Int) < ((z1.length : Int) : Int)) then
      ((gi z1 y8).bind fun u15 =>
      (Vm.impl_nameOk u15).bind fun z17 =>
      bif (!z17) then
        (some false)
      else
        (impl_PathOk_l1 z1 K10 m y6 (w64 (y8 + 1))))
    else
      (K10 y6 y8)

def impl_PathOk (x0 : Str) : Option (Bool) :=
  (Vm.strings_Split x0 ([47] : Str)).bind fun z1 =>
  bif decide ((3 : Int) < ((z1.length : Int) : Int)) then
    (some false)
  else
    (jn (fun (y6 : Bool) (y8 : Int) =>
      some true) fun K10 =>
    impl_PathOk_l1 z1 K10 (((z1.length : Int) - 0).toNat + 1) false 0)

def strings_HasPrefix (x0 : Str) (x1 : Str) : Option (Bool) :=
  some (Go.Lib.hasPrefix x0 x1)

def impl_PathIn (x0 : Str) (x1 : Str) : Option (Bool) :=
  jn (fun (y1 : Bool) =>
    some y1) fun K3 =>
  (Vm.impl_PathOk x0).bind fun z5 =>
  bif z5 then
    ((Vm.impl_PathOk x1).bind fun z11 =>
    bif z11 then
      ((saM x0 ([47] : Str)).bind fun q16 =>
      (Vm.strings_HasPrefix x1 q16).bind fun z18 =>
      K3 z18)
    else
      (K3 false))
  else
    (K3 false)

def impl_TreeOk_l2 (u12 : Vm.File) (q30 : List Vm.File) (K39 : Bool → Int → Option (Bool)) : Nat → Bool → Int → Option (Bool)
  | 0, _, _ => none
  | m + 1, y35, y37 =>
    bif decide ((y37 : Int) < ((q30.length : Int) : Int)) then
      ((gi q30 y37).bind fun u44 =>
      (Vm.impl_PathIn u44.Path u12.Path).bind fun z59 =>
      bif z59 then
        (some false)
      else
        (impl_TreeOk_l2 u12 q30 K39 m y35 (w64 (y37 + 1))))
    else
      (K39 y35 y37)

def impl_TreeOk_l1 (x0 : List Vm.File) (K8 : Bool → Int → Option (Bool)) : Nat → Bool → Int → Option (Bool)
  | 0, _, _ => none
  | m + 1, y2, y6 =>
    bif decide ((y6 : Int) < ((x0.length : Int) : Int)) then
      ((gi x0 y6).bind fun u12 =>
      jn (fun (y24 : Bool) =>
        bif y24 then
          (some false)
        else
          ((slM x0 0 y6).bind fun q30 =>
          jn (fun (y35 : Bool) (y37 : Int) =>
            impl_TreeOk_l1 x0 K8 m y35 (w64 (y6 + 1))) fun K39 =>
          impl_TreeOk_l2 u12 q30 K39 (((q30.length : Int) - 0).toNat + 1) y2 0)) fun K26 =>
      (Vm.impl_TextOk u12.Text).bind fun z70 =>
      bif (!z70) then
        (K26 true)
      else
        ((Vm.impl_PathOk u12.Path).bind fun z77 =>
        bif (!z77) then
          (K26 true)
        else
          (bif decide ((0 : Int) < (y6 : Int)) then
            ((gi x0 (w64 (y6 - 1))).bind fun u84 =>
            K26 (!Op.bytesLess u84.Path u12.Path))
          else
            (K26 false))))
    else
      (K8 y2 y6)

def impl_TreeOk (x0 : List Vm.File) : Option (Bool) :=
  bif decide ((8 : Int) < ((x0.length : Int) : Int)) then
    (some false)
  else
    (jn (fun (y2 : Bool) (y6 : Int) =>
      some true) fun K8 =>
    impl_TreeOk_l1 x0 K8 (((x0.length : Int) - 0).toNat + 1) false 0)

def impl_Repo_exists (x0 : Vm.Repo) (x1 : Int) : Option (Bool) :=
  (Vm.impl_within x1 0 (w64 ((x0.Commits.length : Int) - 1))).bind fun z4 =>
  some z4

def impl_headsOk_l1 (x0 : Vm.Repo) (x1 : List Vm.Head) (K10 : Bool → Int → Option (Bool)) : Nat → Bool → Int → Option (Bool)
  | 0, _, _ => none
  | m + 1, y5, y8 =>
    bif decide ((y8 : Int) < ((x1.length : Int) : Int)) then
      ((gi x1 y8).bind fun u15 =>
      jn (fun (y27 : Bool) =>
        bif y27 then
          (some false)
        else
          (impl_headsOk_l1 x0 x1 K10 m y5 (w64 (y8 + 1)))) fun K29 =>
      (Vm.impl_nameOk u15.Name).bind fun z38 =>
      bif (!z38) then
        (K29 true)
      else
        ((Vm.impl_Repo_exists x0 u15.At).bind fun z47 =>
        bif (!z47) then
          (K29 true)
        else
          (bif decide ((0 : Int) < (y8 : Int)) then
            ((gi x1 (w64 (y8 - 1))).bind fun u55 =>
            K29 (!Op.bytesLess u55.Name u15.Name))
          else
            (K29 false))))
    else
      (K10 y5 y8)

def impl_headsOk (x0 : Vm.Repo) (x1 : List Vm.Head) : Option (Bool) :=
  bif decide ((5 : Int) < ((x1.length : Int) : Int)) then
    (some false)
  else
    (jn (fun (y5 : Bool) (y8 : Int) =>
      some true) fun K10 =>
    impl_headsOk_l1 x0 x1 K10 (((x1.length : Int) - 0).toNat + 1) false 0)

def impl_RepoOk_l2 (y9 : Int) (u16 : Vm.Commit) (K44 : Bool → Int → Option (Bool)) : Nat → Bool → Int → Option (Bool)
  | 0, _, _ => none
  | m + 1, y40, y42 =>
    bif decide ((y42 : Int) < ((u16.Parents.length : Int) : Int)) then
      ((gi u16.Parents y42).bind fun u50 =>
      (Vm.impl_within u50 0 (w64 (y9 - 1))).bind fun z53 =>
      bif (!z53) then
        (some false)
      else
        (impl_RepoOk_l2 y9 u16 K44 m y40 (w64 (y42 + 1))))
    else
      (K44 y40 y42)

def impl_RepoOk_l1 (x0 : Vm.Repo) (K11 : Bool → Int → Option (Bool)) : Nat → Bool → Int → Option (Bool)
  | 0, _, _ => none
  | m + 1, y5, y9 =>
    bif decide ((y9 : Int) < ((x0.Commits.length : Int) : Int)) then
      ((gi x0.Commits y9).bind fun u16 =>
      jn (fun (y32 : Bool) =>
        bif y32 then
          (some false)
        else
          (jn (fun (y40 : Bool) (y42 : Int) =>
            impl_RepoOk_l1 x0 K11 m y40 (w64 (y9 + 1))) fun K44 =>
          impl_RepoOk_l2 y9 u16 K44 (((u16.Parents.length : Int) - 0).toNat + 1) y5 0)) fun K34 =>
      bif decide ((2 : Int) < ((u16.Parents.length : Int) : Int)) then
        (K34 true)
      else
        (bif (((u16.Parents.length : Int) : Int) == (2 : Int)) then
          ((gi u16.Parents 0).bind fun u67 =>
          (gi u16.Parents 1).bind fun u69 =>
          bif ((u67 : Int) == (u69 : Int)) then
            (K34 true)
          else
            ((Vm.impl_nameOk u16.Who).bind fun z72 =>
            bif (!z72) then
              (K34 true)
            else
              ((Vm.impl_TreeOk u16.Tree).bind fun z81 =>
              K34 (!z81))))
        else
          ((Vm.impl_nameOk u16.Who).bind fun z87 =>
          bif (!z87) then
            (K34 true)
          else
            ((Vm.impl_TreeOk u16.Tree).bind fun z96 =>
            K34 (!z96)))))
    else
      (K11 y5 y9)

def impl_RepoOk (x0 : Vm.Repo) : Option (Bool) :=
  bif decide ((16 : Int) < ((x0.Commits.length : Int) : Int)) then
    (some false)
  else
    (jn (fun (y5 : Bool) (y9 : Int) =>
      (Vm.impl_headsOk x0 x0.Heads).bind fun z104 =>
      some z104) fun K11 =>
    impl_RepoOk_l1 x0 K11 (((x0.Commits.length : Int) - 0).toNat + 1) false 0)

def impl_Repo_at_l1 (x0 : Vm.Repo) (x1 : Str) (K8 : Int → Int → Option (Int)) : Nat → Int → Int → Option (Int)
  | 0, _, _ => none
  | m + 1, y4, y6 =>
    bif decide ((y6 : Int) < ((x0.Heads.length : Int) : Int)) then
      ((gi x0.Heads y6).bind fun u13 =>
      bif (u13.Name == x1) then
        (some u13.At)
      else
        (impl_Repo_at_l1 x0 x1 K8 m y4 (w64 (y6 + 1))))
    else
      (K8 y4 y6)

def impl_Repo_at (x0 : Vm.Repo) (x1 : Str) : Option (Int) :=
  jn (fun (y4 : Int) (y6 : Int) =>
    some (-1)) fun K8 =>
  impl_Repo_at_l1 x0 x1 K8 (((x0.Heads.length : Int) - 0).toNat + 1) 0 0

def impl_copyText (x0 : List Str) : Option ((List Str)) :=
  (apM ([] : List Str) x0).bind fun q3 =>
  some q3

def impl_copyTree_l1 (x0 : List Vm.File) (K7 : List Vm.File → Int → Option ((List Vm.File))) : Nat → List Vm.File → Int → Option ((List Vm.File))
  | 0, _, _ => none
  | m + 1, y1, y5 =>
    bif decide ((y5 : Int) < ((x0.length : Int) : Int)) then
      ((gi x0 y5).bind fun u11 =>
      (Vm.impl_copyText u11.Text).bind fun z30 =>
      (apM y1 [Vm.File.mk u11.Path z30]).bind fun q41 =>
      impl_copyTree_l1 x0 K7 m q41 (w64 (y5 + 1)))
    else
      (K7 y1 y5)

def impl_copyTree (x0 : List Vm.File) : Option ((List Vm.File)) :=
  jn (fun (y1 : List Vm.File) (y5 : Int) =>
    some y1) fun K7 =>
  impl_copyTree_l1 x0 K7 (((x0.length : Int) - 0).toNat + 1) ([] : List File) 0

def impl_Repo_own_l1 (x0 : Vm.Repo) (K38 : Int → List Vm.Commit → List Vm.Head → Option (Vm.Repo)) : Nat → Int → List Vm.Commit → List Vm.Head → Option (Vm.Repo)
  | 0, _, _, _ => none
  | m + 1, y29, y30, y33 =>
    bif decide ((y29 : Int) < ((x0.Commits.length : Int) : Int)) then
      ((gi x0.Commits y29).bind fun u44 =>
      (apM ([] : List Int) u44.Parents).bind fun q84 =>
      (Vm.impl_copyTree u44.Tree).bind fun z96 =>
      (apM y30 [Vm.Commit.mk q84 u44.Who z96]).bind fun q117 =>
      impl_Repo_own_l1 x0 K38 m (w64 (y29 + 1)) q117 y33)
    else
      (K38 y29 y30 y33)

def impl_Repo_own (x0 : Vm.Repo) : Option (Vm.Repo) :=
  (apM ([] : List Head) x0.Heads).bind fun q10 =>
  jn (fun (y29 : Int) (y30 : List Vm.Commit) (y33 : List Vm.Head) =>
    some (Vm.Repo.mk y30 y33)) fun K38 =>
  impl_Repo_own_l1 x0 K38 (((x0.Commits.length : Int) - 0).toNat + 1) 0 ([] : List Commit) q10

def slices_Insert_impl_Head_impl_Head (x0 : List Vm.Head) (x1 : Int) (x2 : Vm.Head) : Option ((List Vm.Head)) :=
  if 0 ≤ x1 ∧ x1 ≤ x0.length ∧ x0.length + 1 ≤ lim then some (x0.take x1.toNat ++ [x2] ++ x0.drop x1.toNat) else none

def impl_insertHead_l1 (x0 : List Vm.Head) (x1 : Vm.Head) (K6 : Int → Option ((List Vm.Head))) : Nat → Int → Option ((List Vm.Head))
  | 0, _ => none
  | m + 1, y4 =>
    jn (fun (y10 : Bool) =>
      bif y10 then
        (impl_insertHead_l1 x0 x1 K6 m (w64 (y4 - 1)))
      else
        (K6 y4)) fun K12 =>
    bif decide ((0 : Int) < (y4 : Int)) then
      ((gi x0 (w64 (y4 - 1))).bind fun u92 =>
      K12 (!(Op.bytesLess u92.Name x1.Name || u92.Name == x1.Name)))
    else
      (K12 false)

def impl_insertHead (x0 : List Vm.Head) (x1 : Vm.Head) : Option ((List Vm.Head)) :=
  jn (fun (y4 : Int) =>
    (apM ([] : List Head) x0).bind fun q22 =>
    (Vm.slices_Insert_impl_Head_impl_Head q22 y4 x1).bind fun z32 =>
    some z32) fun K6 =>
  impl_insertHead_l1 x0 x1 K6 (x0.length + 1) (x0.length : Int)

def impl_Repo_point_l1 (x0 : Vm.Repo) (x1 : Str) (x2 : Int) (K22 : Int → List Vm.Commit → List Vm.Head → List Vm.Head → Option (Vm.Repo)) : Nat → Int → List Vm.Commit → List Vm.Head → List Vm.Head → Option (Vm.Repo)
  | 0, _, _, _, _ => none
  | m + 1, y11, y12, y15, y19 =>
    bif decide ((y11 : Int) < ((x0.Heads.length : Int) : Int)) then
      ((gi y19 y11).bind fun u28 =>
      bif (u28.Name == x1) then
        ((gi y19 y11).bind fun u31 =>
        (siM y19 y11 (Vm.Head.mk u31.Name x2)).bind fun q34 =>
        some (Vm.Repo.mk x0.Commits q34))
      else
        (impl_Repo_point_l1 x0 x1 x2 K22 m (w64 (y11 + 1)) y12 y15 y19))
    else
      (K22 y11 y12 y15 y19)

def impl_Repo_point (x0 : Vm.Repo) (x1 : Str) (x2 : Int) : Option (Vm.Repo) :=
  jn (fun (y11 : Int) (y12 : List Vm.Commit) (y15 : List Vm.Head) (y19 : List Vm.Head) =>
    (Vm.impl_insertHead y19 (Vm.Head.mk x1 x2)).bind fun z63 =>
    some (Vm.Repo.mk x0.Commits z63)) fun K22 =>
  impl_Repo_point_l1 x0 x1 x2 K22 (((x0.Heads.length : Int) - 0).toNat + 1) 0 ([] : List Commit) ([] : List Head) x0.Heads

def impl_Repo_tried (x0 : Vm.Repo) (x1 : Vm.Repo) : Option (Vm.Repo × Bool) :=
  (Vm.impl_RepoOk (Vm.Repo.mk x1.Commits x1.Heads)).bind fun z17 =>
  bif (!z17) then
    ((Vm.impl_Repo_own x0).bind fun z29 =>
    some (Vm.Repo.mk z29.Commits z29.Heads, false))
  else
    (some (Vm.Repo.mk x1.Commits x1.Heads, true))

def impl_RepoBranch (x0 : Vm.Repo) (x1 : Str) (x2 : Int) : Option (Vm.Repo × Bool) :=
  (Vm.impl_RepoOk x0).bind fun z9 =>
  bif (!z9) then
    (some (Vm.Repo.mk ([] : List Commit) ([] : List Head), false))
  else
    ((Vm.impl_Repo_at x0 x1).bind fun z21 =>
    bif decide ((0 : Int) ≤ (z21 : Int)) then
      ((Vm.impl_Repo_own x0).bind fun z30 =>
      some (Vm.Repo.mk z30.Commits z30.Heads, false))
    else
      ((Vm.impl_Repo_own x0).bind fun z57 =>
      (Vm.impl_Repo_point (Vm.Repo.mk z57.Commits z57.Heads) x1 x2).bind fun z63 =>
      (Vm.impl_Repo_tried x0 (Vm.Repo.mk z63.Commits z63.Heads)).bind fun z72 =>
      some (Vm.Repo.mk z72.1.Commits z72.1.Heads, z72.2)))

def laws_eqIntS_l1 (x0 : List Int) (x1 : List Int) (K5 : Bool → Int → Option (Bool)) : Nat → Bool → Int → Option (Bool)
  | 0, _, _ => none
  | m + 1, y2, y3 =>
    bif decide ((y3 : Int) < ((x0.length : Int) : Int)) then
      ((gi x0 y3).bind fun u12 =>
      (gi x1 y3).bind fun u15 =>
      bif ((u12 : Int) != (u15 : Int)) then
        (some false)
      else
        (laws_eqIntS_l1 x0 x1 K5 m y2 (w64 (y3 + 1))))
    else
      (K5 y2 y3)

def laws_eqIntS (x0 : List Int) (x1 : List Int) : Option (Bool) :=
  bif (((x0.length : Int) : Int) != ((x1.length : Int) : Int)) then
    (some false)
  else
    (jn (fun (y2 : Bool) (y3 : Int) =>
      some true) fun K5 =>
    laws_eqIntS_l1 x0 x1 K5 (((x0.length : Int) - 0).toNat + 1) false 0)

def laws_eqStringS_l1 (x0 : List Str) (x1 : List Str) (K5 : Bool → Int → Option (Bool)) : Nat → Bool → Int → Option (Bool)
  | 0, _, _ => none
  | m + 1, y2, y3 =>
    bif decide ((y3 : Int) < ((x0.length : Int) : Int)) then
      ((gi x0 y3).bind fun u12 =>
      (gi x1 y3).bind fun u15 =>
      bif (u12 != u15) then
        (some false)
      else
        (laws_eqStringS_l1 x0 x1 K5 m y2 (w64 (y3 + 1))))
    else
      (K5 y2 y3)

def laws_eqStringS (x0 : List Str) (x1 : List Str) : Option (Bool) :=
  bif (((x0.length : Int) : Int) != ((x1.length : Int) : Int)) then
    (some false)
  else
    (jn (fun (y2 : Bool) (y3 : Int) =>
      some true) fun K5 =>
    laws_eqStringS_l1 x0 x1 K5 (((x0.length : Int) - 0).toNat + 1) false 0)

def laws_eqFile (x0 : Vm.File) (x1 : Vm.File) : Option (Bool) :=
  bif (x0.Path != x1.Path) then
    (some false)
  else
    ((Vm.laws_eqStringS x0.Text x1.Text).bind fun z9 =>
    bif (!z9) then
      (some false)
    else
      (some true))

def laws_eqFileS_l1 (x0 : List Vm.File) (x1 : List Vm.File) (K5 : Bool → Int → Option (Bool)) : Nat → Bool → Int → Option (Bool)
  | 0, _, _ => none
  | m + 1, y2, y3 =>
    bif decide ((y3 : Int) < ((x0.length : Int) : Int)) then
      ((gi x0 y3).bind fun u12 =>
      (gi x1 y3).bind fun u20 =>
      (Vm.laws_eqFile u12 u20).bind fun z28 =>
      bif (!z28) then
        (some false)
      else
        (laws_eqFileS_l1 x0 x1 K5 m y2 (w64 (y3 + 1))))
    else
      (K5 y2 y3)

def laws_eqFileS (x0 : List Vm.File) (x1 : List Vm.File) : Option (Bool) :=
  bif (((x0.length : Int) : Int) != ((x1.length : Int) : Int)) then
    (some false)
  else
    (jn (fun (y2 : Bool) (y3 : Int) =>
      some true) fun K5 =>
    laws_eqFileS_l1 x0 x1 K5 (((x0.length : Int) - 0).toNat + 1) false 0)

def laws_eqCommit (x0 : Vm.Commit) (x1 : Vm.Commit) : Option (Bool) :=
  (Vm.laws_eqIntS x0.Parents x1.Parents).bind fun z8 =>
  bif (!z8) then
    (some false)
  else
    (bif (x0.Who != x1.Who) then
      (some false)
    else
      ((Vm.laws_eqFileS x0.Tree x1.Tree).bind fun z18 =>
      bif (!z18) then
        (some false)
      else
        (some true)))

def laws_eqCommitS_l1 (x0 : List Vm.Commit) (x1 : List Vm.Commit) (K5 : Bool → Int → Option (Bool)) : Nat → Bool → Int → Option (Bool)
  | 0, _, _ => none
  | m + 1, y2, y3 =>
    bif decide ((y3 : Int) < ((x0.length : Int) : Int)) then
      ((gi x0 y3).bind fun u12 =>
      (gi x1 y3).bind fun u22 =>
      (Vm.laws_eqCommit u12 u22).bind fun z32 =>
      bif (!z32) then
        (some false)
      else
        (laws_eqCommitS_l1 x0 x1 K5 m y2 (w64 (y3 + 1))))
    else
      (K5 y2 y3)

def laws_eqCommitS (x0 : List Vm.Commit) (x1 : List Vm.Commit) : Option (Bool) :=
  bif (((x0.length : Int) : Int) != ((x1.length : Int) : Int)) then
    (some false)
  else
    (jn (fun (y2 : Bool) (y3 : Int) =>
      some true) fun K5 =>
    laws_eqCommitS_l1 x0 x1 K5 (((x0.length : Int) - 0).toNat + 1) false 0)

def laws_eqHead (x0 : Vm.Head) (x1 : Vm.Head) : Option (Bool) :=
  bif (x0.Name != x1.Name) then
    (some false)
  else
    (bif ((x0.At : Int) != (x1.At : Int)) then
      (some false)
    else
      (some true))

def laws_eqHeadS_l1 (x0 : List Vm.Head) (x1 : List Vm.Head) (K5 : Bool → Int → Option (Bool)) : Nat → Bool → Int → Option (Bool)
  | 0, _, _ => none
  | m + 1, y2, y3 =>
    bif decide ((y3 : Int) < ((x0.length : Int) : Int)) then
      ((gi x0 y3).bind fun u12 =>
      (gi x1 y3).bind fun u18 =>
      (Vm.laws_eqHead u12 u18).bind fun z24 =>
      bif (!z24) then
        (some false)
      else
        (laws_eqHeadS_l1 x0 x1 K5 m y2 (w64 (y3 + 1))))
    else
      (K5 y2 y3)

def laws_eqHeadS (x0 : List Vm.Head) (x1 : List Vm.Head) : Option (Bool) :=
  bif (((x0.length : Int) : Int) != ((x1.length : Int) : Int)) then
    (some false)
  else
    (jn (fun (y2 : Bool) (y3 : Int) =>
      some true) fun K5 =>
    laws_eqHeadS_l1 x0 x1 K5 (((x0.length : Int) - 0).toNat + 1) false 0)

def laws_eqRepo (x0 : Vm.Repo) (x1 : Vm.Repo) : Option (Bool) :=
  (Vm.laws_eqCommitS x0.Commits x1.Commits).bind fun z8 =>
  bif (!z8) then
    (some false)
  else
    ((Vm.laws_eqHeadS x0.Heads x1.Heads).bind fun z17 =>
    bif (!z17) then
      (some false)
    else
      (some true))

def laws_markIntS_l1  (K6 : Int → Int → List Int → Option (Int × (List Int))) : Nat → Int → Int → List Int → Option (Int × (List Int))
  | 0, _, _, _ => none
  | m + 1, y1, y2, y3 =>
    bif decide ((y2 : Int) < ((y3.length : Int) : Int)) then
      ((gi y3 y2).bind fun u10 =>
      (siM y3 y2 y1).bind fun q13 =>
      laws_markIntS_l1 K6 m (w64 (y1 + 1)) (w64 (y2 + 1)) q13)
    else
      (K6 y1 y2 y3)

def laws_markIntS (x0 : List Int) (x1 : Int) : Option (Int × (List Int)) :=
  jn (fun (y1 : Int) (y2 : Int) (y3 : List Int) =>
    some (y1, y3)) fun K6 =>
  laws_markIntS_l1 K6 (((x0.length : Int) - 0).toNat + 1) x1 0 x0

def laws_markText_l1  (K5 : Int → Str → Option (Str)) : Nat → Int → Str → Option (Str)
  | 0, _, _ => none
  | m + 1, y2, y3 =>
    bif decide ((0 : Int) < (y2 : Int)) then
      ((saM (([(by8 (w64 (48 + (Int.tmod y2 10))))] : List Byte) : Str) y3).bind fun q11 =>
      laws_markText_l1 K5 m (w64 (Int.tdiv y2 10)) q11)
    else
      (K5 y2 y3)

def laws_markText (x0 : Int) : Option (Str) :=
  bif decide ((x0 : Int) ≤ (0 : Int)) then
    (some ([109, 48] : Str))
  else
    (jn (fun (y2 : Int) (y3 : Str) =>
      (saM ([109] : Str) y3).bind fun q13 =>
      some q13) fun K5 =>
    laws_markText_l1 K5 ((x0 - 0).toNat + 1) x0 ([] : Str))

def laws_markStringS_l1  (K6 : Int → Int → List Str → Option (Int × (List Str))) : Nat → Int → Int → List Str → Option (Int × (List Str))
  | 0, _, _, _ => none
  | m + 1, y1, y2, y3 =>
    bif decide ((y2 : Int) < ((y3.length : Int) : Int)) then
      ((Vm.laws_markText y1).bind fun z10 =>
      (gi y3 y2).bind fun u15 =>
      (siM y3 y2 z10).bind fun q18 =>
      laws_markStringS_l1 K6 m (w64 (y1 + 1)) (w64 (y2 + 1)) q18)
    else
      (K6 y1 y2 y3)

def laws_markStringS (x0 : List Str) (x1 : Int) : Option (Int × (List Str)) :=
  jn (fun (y1 : Int) (y2 : Int) (y3 : List Str) =>
    some (y1, y3)) fun K6 =>
  laws_markStringS_l1 K6 (((x0.length : Int) - 0).toNat + 1) x1 0 x0

def laws_markFileS_l1  (K6 : Int → Int → List Vm.File → Option (Int × (List Vm.File))) : Nat → Int → Int → List Vm.File → Option (Int × (List Vm.File))
  | 0, _, _, _ => none
  | m + 1, y1, y2, y3 =>
    bif decide ((y2 : Int) < ((y3.length : Int) : Int)) then
      ((Vm.laws_markText y1).bind fun z10 =>
      (gi y3 y2).bind fun u15 =>
      (siM y3 y2 (Vm.File.mk z10 u15.Text)).bind fun q18 =>
      (gi q18 y2).bind fun u21 =>
      (Vm.laws_markStringS u21.Text (w64 (y1 + 1))).bind fun z28 =>
      (siM q18 y2 (Vm.File.mk u21.Path z28.2)).bind fun q33_ =>
      laws_markFileS_l1 K6 m z28.1 (w64 (y2 + 1)) q33_)
    else
      (K6 y1 y2 y3)

def laws_markFileS (x0 : List Vm.File) (x1 : Int) : Option (Int × (List Vm.File)) :=
  jn (fun (y1 : Int) (y2 : Int) (y3 : List Vm.File) =>
    some (y1, y3)) fun K6 =>
  laws_markFileS_l1 K6 (((x0.length : Int) - 0).toNat + 1) x1 0 x0

def laws_markCommitS_l1  (K6 : Int → Int → List Vm.Commit → Option (Int × (List Vm.Commit))) : Nat → Int → Int → List Vm.Commit → Option (Int × (List Vm.Commit))
  | 0, _, _, _ => none
  | m + 1, y1, y2, y3 =>
    bif decide ((y2 : Int) < ((y3.length : Int) : Int)) then
      ((gi y3 y2).bind fun u10 =>
      (Vm.laws_markIntS u10.Parents y1).bind fun z17 =>
      (siM y3 y2 (Vm.Commit.mk z17.2 u10.Who u10.Tree)).bind fun q22_ =>
      (Vm.laws_markText z17.1).bind fun z24 =>
      (gi q22_ y2).bind fun u29 =>
      (siM q22_ y2 (Vm.Commit.mk u29.Parents z24 u29.Tree)).bind fun q32 =>
      (gi q32 y2).bind fun u35 =>
      (Vm.laws_markFileS u35.Tree (w64 (z17.1 + 1))).bind fun z42 =>
      (siM q32 y2 (Vm.Commit.mk u35.Parents u35.Who z42.2)).bind fun q47_ =>
      laws_markCommitS_l1 K6 m z42.1 (w64 (y2 + 1)) q47_)
    else
      (K6 y1 y2 y3)

def laws_markCommitS (x0 : List Vm.Commit) (x1 : Int) : Option (Int × (List Vm.Commit)) :=
  jn (fun (y1 : Int) (y2 : Int) (y3 : List Vm.Commit) =>
    some (y1, y3)) fun K6 =>
  laws_markCommitS_l1 K6 (((x0.length : Int) - 0).toNat + 1) x1 0 x0

def laws_markHeadS_l1  (K6 : Int → Int → List Vm.Head → Option (Int × (List Vm.Head))) : Nat → Int → Int → List Vm.Head → Option (Int × (List Vm.Head))
  | 0, _, _, _ => none
  | m + 1, y1, y2, y3 =>
    bif decide ((y2 : Int) < ((y3.length : Int) : Int)) then
      ((Vm.laws_markText y1).bind fun z10 =>
      (gi y3 y2).bind fun u15 =>
      (siM y3 y2 (Vm.Head.mk z10 u15.At)).bind fun q18 =>
      (gi q18 y2).bind fun u21 =>
      (siM q18 y2 (Vm.Head.mk u21.Name (w64 (y1 + 1)))).bind fun q24 =>
      laws_markHeadS_l1 K6 m (w64 ((w64 (y1 + 1)) + 1)) (w64 (y2 + 1)) q24)
    else
      (K6 y1 y2 y3)

def laws_markHeadS (x0 : List Vm.Head) (x1 : Int) : Option (Int × (List Vm.Head)) :=
  jn (fun (y1 : Int) (y2 : Int) (y3 : List Vm.Head) =>
    some (y1, y3)) fun K6 =>
  laws_markHeadS_l1 K6 (((x0.length : Int) - 0).toNat + 1) x1 0 x0

def laws_markRepo (x0 : Vm.Repo) (x1 : Int) : Option (Int × Vm.Repo) :=
  (Vm.laws_markCommitS x0.Commits x1).bind fun z5 =>
  (Vm.laws_markHeadS x0.Heads z5.1).bind fun z11 =>
  some (z11.1, Vm.Repo.mk z5.2 z11.2)

def laws_heldIntS_l1 (x0 : List Int) (K5 : Int → Int → Int → Option (Int)) : Nat → Int → Int → Int → Option (Int)
  | 0, _, _, _ => none
  | m + 1, y1, y2, y3 =>
    bif decide ((y3 : Int) < ((x0.length : Int) : Int)) then
      ((gi x0 y3).bind fun u10 =>
      bif ((u10 : Int) != (y1 : Int)) then
        (some (-1))
      else
        (laws_heldIntS_l1 x0 K5 m (w64 (y1 + 1)) y2 (w64 (y3 + 1))))
    else
      (K5 y1 y2 y3)

def laws_heldIntS (x0 : List Int) (x1 : Int) : Option (Int) :=
  jn (fun (y1 : Int) (y2 : Int) (y3 : Int) =>
    some y1) fun K5 =>
  laws_heldIntS_l1 x0 K5 (((x0.length : Int) - 0).toNat + 1) x1 0 0

def laws_heldStringS_l1 (x0 : List Str) (K5 : Int → Int → Int → Option (Int)) : Nat → Int → Int → Int → Option (Int)
  | 0, _, _, _ => none
  | m + 1, y1, y2, y3 =>
    bif decide ((y3 : Int) < ((x0.length : Int) : Int)) then
      ((gi x0 y3).bind fun u12 =>
      (Vm.laws_markText y1).bind fun z15 =>
      bif (u12 != z15) then
        (some (-1))
      else
        (laws_heldStringS_l1 x0 K5 m (w64 (y1 + 1)) y2 (w64 (y3 + 1))))
    else
      (K5 y1 y2 y3)

def laws_heldStringS (x0 : List Str) (x1 : Int) : Option (Int) :=
  jn (fun (y1 : Int) (y2 : Int) (y3 : Int) =>
    some y1) fun K5 =>
  laws_heldStringS_l1 x0 K5 (((x0.length : Int) - 0).toNat + 1) x1 0 0

def laws_heldFileS_l1 (x0 : List Vm.File) (K5 : Int → Int → Int → Option (Int)) : Nat → Int → Int → Int → Option (Int)
  | 0, _, _, _ => none
  | m + 1, y1, y2, y3 =>
    bif decide ((y3 : Int) < ((x0.length : Int) : Int)) then
      ((gi x0 y3).bind fun u12 =>
      (Vm.laws_markText y1).bind fun z15 =>
      bif (u12.Path != z15) then
        (some (-1))
      else
        ((gi x0 y3).bind fun u20 =>
        (Vm.laws_heldStringS u20.Text (w64 (y1 + 1))).bind fun z26 =>
        bif decide ((z26 : Int) < (0 : Int)) then
          (some (-1))
        else
          (laws_heldFileS_l1 x0 K5 m z26 y2 (w64 (y3 + 1)))))
    else
      (K5 y1 y2 y3)

def laws_heldFileS (x0 : List Vm.File) (x1 : Int) : Option (Int) :=
  jn (fun (y1 : Int) (y2 : Int) (y3 : Int) =>
    some y1) fun K5 =>
  laws_heldFileS_l1 x0 K5 (((x0.length : Int) - 0).toNat + 1) x1 0 0

def laws_heldCommitS_l1 (x0 : List Vm.Commit) (K5 : Int → Int → Int → Option (Int)) : Nat → Int → Int → Int → Option (Int)
  | 0, _, _, _ => none
  | m + 1, y1, y2, y3 =>
    bif decide ((y3 : Int) < ((x0.length : Int) : Int)) then
      ((gi x0 y3).bind fun u10 =>
      (Vm.laws_heldIntS u10.Parents y1).bind fun z15 =>
      bif decide ((z15 : Int) < (0 : Int)) then
        (some (-1))
      else
        ((gi x0 y3).bind fun u22 =>
        (Vm.laws_markText z15).bind fun z25 =>
        bif (u22.Who != z25) then
          (some (-1))
        else
          ((gi x0 y3).bind fun u30 =>
          (Vm.laws_heldFileS u30.Tree (w64 (z15 + 1))).bind fun z36 =>
          bif decide ((z36 : Int) < (0 : Int)) then
            (some (-1))
          else
            (laws_heldCommitS_l1 x0 K5 m z36 y2 (w64 (y3 + 1))))))
    else
      (K5 y1 y2 y3)

def laws_heldCommitS (x0 : List Vm.Commit) (x1 : Int) : Option (Int) :=
  jn (fun (y1 : Int) (y2 : Int) (y3 : Int) =>
    some y1) fun K5 =>
  laws_heldCommitS_l1 x0 K5 (((x0.length : Int) - 0).toNat + 1) x1 0 0

def laws_heldHeadS_l1 (x0 : List Vm.Head) (K5 : Int → Int → Int → Option (Int)) : Nat → Int → Int → Int → Option (Int)
  | 0, _, _, _ => none
  | m + 1, y1, y2, y3 =>
    bif decide ((y3 : Int) < ((x0.length : Int) : Int)) then
      ((gi x0 y3).bind fun u12 =>
      (Vm.laws_markText y1).bind fun z15 =>
      bif (u12.Name != z15) then
        (some (-1))
      else
        ((gi x0 y3).bind fun u20 =>
        bif ((u20.At : Int) != (w64 (y1 + 1) : Int)) then
          (some (-1))
        else
          (laws_heldHeadS_l1 x0 K5 m (w64 ((w64 (y1 + 1)) + 1)) y2 (w64 (y3 + 1)))))
    else
      (K5 y1 y2 y3)

def laws_heldHeadS (x0 : List Vm.Head) (x1 : Int) : Option (Int) :=
  jn (fun (y1 : Int) (y2 : Int) (y3 : Int) =>
    some y1) fun K5 =>
  laws_heldHeadS_l1 x0 K5 (((x0.length : Int) - 0).toNat + 1) x1 0 0

def laws_heldRepo (x0 : Vm.Repo) (x1 : Int) : Option (Int) :=
  (Vm.laws_heldCommitS x0.Commits x1).bind fun z4 =>
  bif decide ((z4 : Int) < (0 : Int)) then
    (some (-1))
  else
    ((Vm.laws_heldHeadS x0.Heads z4).bind fun z11 =>
    bif decide ((z11 : Int) < (0 : Int)) then
      (some (-1))
    else
      (some z11))

def laws_FnExactRepoBranch (x0 : Vm.Repo) (x1 : Str) (x2 : Int) : Option (Bool) :=
  bif decide ((1048576 : Int) < ((x1.length : Int) : Int)) then
    (some true)
  else
    ((Vm.laws_szRepo x0 1048576).bind fun z6 =>
    bif decide ((z6 : Int) < (0 : Int)) then
      (some true)
    else
      ((Vm.laws_toRepo x0).bind fun z14 =>
      (Vm.spec_RepoBranch (Vm.Repo.mk z14.Commits z14.Heads) x1 x2).bind fun z19 =>
      (Vm.laws_toRepo x0).bind fun z40 =>
      (Vm.impl_RepoBranch (Vm.Repo.mk z40.Commits z40.Heads) x1 x2).bind fun z65 =>
      jn (fun (y98 : Bool) =>
        bif y98 then
          (some false)
        else
          ((Vm.laws_toRepo x0).bind fun z127 =>
          (Vm.laws_eqRepo (Vm.Repo.mk z40.Commits z40.Heads) (Vm.Repo.mk z127.Commits z127.Heads)).bind fun z141 =>
          bif (!z141) then
            (some false)
          else
            ((Vm.laws_markRepo (Vm.Repo.mk z40.Commits z40.Heads) 1).bind fun z158 =>
            jn (fun (y172 : Bool) =>
              bif y172 then
                (some false)
              else
                ((Vm.laws_markRepo (Vm.Repo.mk z65.1.Commits z65.1.Heads) 1).bind fun z189 =>
                (Vm.laws_heldRepo (Vm.Repo.mk z189.2.Commits z189.2.Heads) 1).bind fun z203 =>
                bif decide ((z203 : Int) < (0 : Int)) then
                  (some false)
                else
                  (bif ((z203 : Int) != (z189.1 : Int)) then
                    (some false)
                  else
                    ((Vm.laws_toRepo x0).bind fun z223 =>
                    (Vm.impl_RepoBranch (Vm.Repo.mk z223.Commits z223.Heads) x1 x2).bind fun z240 =>
                    jn (fun (y294 : Bool) =>
                      bif y294 then
                        (some false)
                      else
                        ((Vm.laws_heldRepo (Vm.Repo.mk z189.2.Commits z189.2.Heads) 1).bind fun z316 =>
                        bif decide ((z316 : Int) < (0 : Int)) then
                          (some false)
                        else
                          (bif ((z316 : Int) != (z189.1 : Int)) then
                            (some false)
                          else
                            (some true)))) fun K296 =>
                    (Vm.laws_eqRepo (Vm.Repo.mk z240.1.Commits z240.1.Heads) z19.1).bind fun z341 =>
                    bif (!z341) then
                      (K296 true)
                    else
                      (K296 (z240.2 != z19.2)))))) fun K174 =>
            bif decide ((z158.1 : Int) < (0 : Int)) then
              (K174 true)
            else
              ((Vm.laws_eqRepo (Vm.Repo.mk z65.1.Commits z65.1.Heads) z19.1).bind fun z366 =>
              bif (!z366) then
                (K174 true)
              else
                (K174 (z65.2 != z19.2)))))) fun K100 =>
      (Vm.laws_eqRepo (Vm.Repo.mk z65.1.Commits z65.1.Heads) z19.1).bind fun z385 =>
      bif (!z385) then
        (K100 true)
      else
        (K100 (z65.2 != z19.2))))

end Go.Vm
