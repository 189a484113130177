/- Models of the functions: plain Lean, printed by a program of ours. Conditions: none. -/
import Derived.Test.YtbimgeocngkboaaGreatDoorBLw
import Derived.Lib.SplitLaws
import Derived.Lib.IndexMore
import Derived.Lib.Join
import Derived.Lib.ItoaNum
namespace Go.Vm
open Go Go.Sx
set_option linter.unusedVariables false
set_option linter.unusedSimpArgs false
def laws_szIntS (x0 : List Int) (x1 : Int) : Option (Int) :=
 bif decide ((w64 (x1 - (x0.length : Int)) : Int) < (0 : Int)) then
 (some (-1))
 else
 (some (w64 (x1 - (x0.length : Int))))
def laws_szStringS_l1 (x0 : List Str) (c : Int → Int → Int → Option (Int)) : Nat → Int → Int → Int → Option (Int)
 | 0, _, _, _ => none
 | m + 1, b, d, a =>
 bif decide ((a : Int) < ((x0.length : Int) : Int)) then
 ((gi x0 a).bind fun e =>
 bif decide ((w64 (b - (e.length : Int)) : Int) < (0 : Int)) then
 (some (-1))
 else
 (laws_szStringS_l1 x0 c m (w64 (b - (e.length : Int))) d (w64 (a + 1))))
 else
 (c b d a)
def laws_szStringS (x0 : List Str) (x1 : Int) : Option (Int) :=
 bif decide ((w64 (x1 - (x0.length : Int)) : Int) < (0 : Int)) then
 (some (-1))
 else
 (jn (fun (a : Int) (c : Int) (d : Int) =>
 some a) fun b =>
 laws_szStringS_l1 x0 b (((x0.length : Int) - 0).toNat + 1) (w64 (x1 - (x0.length : Int))) 0 0)
def laws_szFile (x0 : Vm.File) (x1 : Int) : Option (Int) :=
 bif decide ((w64 (x1 - (x0.Path.length : Int)) : Int) < (0 : Int)) then
 (some (-1))
 else
 ((Vm.laws_szStringS x0.Text (w64 (x1 - (x0.Path.length : Int)))).bind fun a =>
 bif decide ((a : Int) < (0 : Int)) then
 (some (-1))
 else
 (some a))
def laws_szFileS_l1 (x0 : List Vm.File) (b : Int → Int → Int → Option (Int)) : Nat → Int → Int → Int → Option (Int)
 | 0, _, _, _ => none
 | m + 1, c, d, a =>
 bif decide ((a : Int) < ((x0.length : Int) : Int)) then
 ((gi x0 a).bind fun f =>
 (Vm.laws_szFile f c).bind fun e =>
 bif decide ((e : Int) < (0 : Int)) then
 (some (-1))
 else
 (laws_szFileS_l1 x0 b m e d (w64 (a + 1))))
 else
 (b c d a)
def laws_szFileS (x0 : List Vm.File) (x1 : Int) : Option (Int) :=
 bif decide ((w64 (x1 - (x0.length : Int)) : Int) < (0 : Int)) then
 (some (-1))
 else
 (jn (fun (a : Int) (c : Int) (d : Int) =>
 some a) fun b =>
 laws_szFileS_l1 x0 b (((x0.length : Int) - 0).toNat + 1) (w64 (x1 - (x0.length : Int))) 0 0)
def laws_szCommit (x0 : Vm.Commit) (x1 : Int) : Option (Int) :=
 (Vm.laws_szIntS x0.Parents x1).bind fun a =>
 bif decide ((a : Int) < (0 : Int)) then
 (some (-1))
 else
 (bif decide ((w64 (a - (x0.Who.length : Int)) : Int) < (0 : Int)) then
 (some (-1))
 else
 ((Vm.laws_szFileS x0.Tree (w64 (a - (x0.Who.length : Int)))).bind fun b =>
 bif decide ((b : Int) < (0 : Int)) then
 (some (-1))
 else
 (some b)))
def laws_szCommitS_l1 (x0 : List Vm.Commit) (b : Int → Int → Int → Option (Int)) : Nat → Int → Int → Int → Option (Int)
 | 0, _, _, _ => none
 | m + 1, c, d, a =>
 bif decide ((a : Int) < ((x0.length : Int) : Int)) then
 ((gi x0 a).bind fun f =>
 (Vm.laws_szCommit f c).bind fun e =>
 bif decide ((e : Int) < (0 : Int)) then
 (some (-1))
 else
 (laws_szCommitS_l1 x0 b m e d (w64 (a + 1))))
 else
 (b c d a)
def laws_szCommitS (x0 : List Vm.Commit) (x1 : Int) : Option (Int) :=
 bif decide ((w64 (x1 - (x0.length : Int)) : Int) < (0 : Int)) then
 (some (-1))
 else
 (jn (fun (a : Int) (c : Int) (d : Int) =>
 some a) fun b =>
 laws_szCommitS_l1 x0 b (((x0.length : Int) - 0).toNat + 1) (w64 (x1 - (x0.length : Int))) 0 0)
def laws_szHead (x0 : Vm.Head) (x1 : Int) : Option (Int) :=
 bif decide ((w64 (x1 - (x0.Name.length : Int)) : Int) < (0 : Int)) then
 (some (-1))
 else
 (some (w64 (x1 - (x0.Name.length : Int))))
def laws_szHeadS_l1 (x0 : List Vm.Head) (b : Int → Int → Int → Option (Int)) : Nat → Int → Int → Int → Option (Int)
 | 0, _, _, _ => none
 | m + 1, c, d, a =>
 bif decide ((a : Int) < ((x0.length : Int) : Int)) then
 ((gi x0 a).bind fun f =>
 (Vm.laws_szHead f c).bind fun e =>
 bif decide ((e : Int) < (0 : Int)) then
 (some (-1))
 else
 (laws_szHeadS_l1 x0 b m e d (w64 (a + 1))))
 else
 (b c d a)
def laws_szHeadS (x0 : List Vm.Head) (x1 : Int) : Option (Int) :=
 bif decide ((w64 (x1 - (x0.length : Int)) : Int) < (0 : Int)) then
 (some (-1))
 else
 (jn (fun (a : Int) (c : Int) (d : Int) =>
 some a) fun b =>
 laws_szHeadS_l1 x0 b (((x0.length : Int) - 0).toNat + 1) (w64 (x1 - (x0.length : Int))) 0 0)
def laws_szRepo (x0 : Vm.Repo) (x1 : Int) : Option (Int) :=
 (Vm.laws_szCommitS x0.Commits x1).bind fun a =>
 bif decide ((a : Int) < (0 : Int)) then
 (some (-1))
 else
 ((Vm.laws_szHeadS x0.Heads a).bind fun b =>
 bif decide ((b : Int) < (0 : Int)) then
 (some (-1))
 else
 (some b))
def laws_toIntS_l1 (x0 : List Int) (c : Int → List Int → Option ((List Int))) : Nat → Int → List Int → Option ((List Int))
 | 0, _, _ => none
 | m + 1, a, b =>
 bif decide ((a : Int) < ((x0.length : Int) : Int)) then
 ((gi x0 a).bind fun d =>
 (gi b a).bind fun f =>
 (siM b a d).bind fun e =>
 laws_toIntS_l1 x0 c m (w64 (a + 1)) e)
 else
 (c a b)
def laws_toIntS (x0 : List Int) : Option ((List Int)) :=
 (mkM (x0.length : Int) (0 : Int)).bind fun a =>
 jn (fun (d : Int) (b : List Int) =>
 some b) fun c =>
 laws_toIntS_l1 x0 c (((x0.length : Int) - 0).toNat + 1) 0 a
def laws_toStringS_l1 (x0 : List Str) (c : Int → List Str → Option ((List Str))) : Nat → Int → List Str → Option ((List Str))
 | 0, _, _ => none
 | m + 1, a, b =>
 bif decide ((a : Int) < ((x0.length : Int) : Int)) then
 ((gi x0 a).bind fun d =>
 (gi b a).bind fun f =>
 (siM b a d).bind fun e =>
 laws_toStringS_l1 x0 c m (w64 (a + 1)) e)
 else
 (c a b)
def laws_toStringS (x0 : List Str) : Option ((List Str)) :=
 (mkM (x0.length : Int) (([] : Str) : Str)).bind fun a =>
 jn (fun (d : Int) (b : List Str) =>
 some b) fun c =>
 laws_toStringS_l1 x0 c (((x0.length : Int) - 0).toNat + 1) 0 a
def laws_toFile (x0 : Vm.File) : Option (Vm.File) :=
 (Vm.laws_toStringS x0.Text).bind fun a =>
 some (Vm.File.mk x0.Path a)
def laws_toFileS_l1 (x0 : List Vm.File) (c : Int → List Vm.File → Option ((List Vm.File))) : Nat → Int → List Vm.File → Option ((List Vm.File))
 | 0, _, _ => none
 | m + 1, a, b =>
 bif decide ((a : Int) < ((x0.length : Int) : Int)) then
 ((gi x0 a).bind fun e =>
 (Vm.laws_toFile e).bind fun d =>
 (gi b a).bind fun g =>
 (siM b a (Vm.File.mk d.Path d.Text)).bind fun f =>
 laws_toFileS_l1 x0 c m (w64 (a + 1)) f)
 else
 (c a b)
def laws_toFileS (x0 : List Vm.File) : Option ((List Vm.File)) :=
 (mkM (x0.length : Int) (Vm.File.mk ([] : Str) ([] : List Str) : File)).bind fun a =>
 jn (fun (d : Int) (b : List Vm.File) =>
 some b) fun c =>
 laws_toFileS_l1 x0 c (((x0.length : Int) - 0).toNat + 1) 0 a
def laws_toCommit (x0 : Vm.Commit) : Option (Vm.Commit) :=
 (Vm.laws_toIntS x0.Parents).bind fun a =>
 (Vm.laws_toFileS x0.Tree).bind fun b =>
 some (Vm.Commit.mk a x0.Who b)
def laws_toCommitS_l1 (x0 : List Vm.Commit) (d : Int → List Vm.Commit → Option ((List Vm.Commit))) : Nat → Int → List Vm.Commit → Option ((List Vm.Commit))
 | 0, _, _ => none
 | m + 1, a, b =>
 bif decide ((a : Int) < ((x0.length : Int) : Int)) then
 ((gi x0 a).bind fun e =>
 (Vm.laws_toCommit e).bind fun c =>
 (gi b a).bind fun g =>
 (siM b a (Vm.Commit.mk c.Parents c.Who c.Tree)).bind fun f =>
 laws_toCommitS_l1 x0 d m (w64 (a + 1)) f)
 else
 (d a b)
def laws_toCommitS (x0 : List Vm.Commit) : Option ((List Vm.Commit)) :=
 (mkM (x0.length : Int) (Vm.Commit.mk ([] : List Int) ([] : Str) ([] : List File) : Commit)).bind fun a =>
 jn (fun (d : Int) (b : List Vm.Commit) =>
 some b) fun c =>
 laws_toCommitS_l1 x0 c (((x0.length : Int) - 0).toNat + 1) 0 a
def laws_toHead (x0 : Vm.Head) : Option (Vm.Head) :=
 some (Vm.Head.mk x0.Name x0.At)
def laws_toHeadS_l1 (x0 : List Vm.Head) (c : Int → List Vm.Head → Option ((List Vm.Head))) : Nat → Int → List Vm.Head → Option ((List Vm.Head))
 | 0, _, _ => none
 | m + 1, a, b =>
 bif decide ((a : Int) < ((x0.length : Int) : Int)) then
 ((gi x0 a).bind fun d =>
 (Vm.laws_toHead d).bind fun e =>
 (gi b a).bind fun g =>
 (siM b a e).bind fun f =>
 laws_toHeadS_l1 x0 c m (w64 (a + 1)) f)
 else
 (c a b)
def laws_toHeadS (x0 : List Vm.Head) : Option ((List Vm.Head)) :=
 (mkM (x0.length : Int) (Vm.Head.mk ([] : Str) 0 : Head)).bind fun a =>
 jn (fun (d : Int) (b : List Vm.Head) =>
 some b) fun c =>
 laws_toHeadS_l1 x0 c (((x0.length : Int) - 0).toNat + 1) 0 a
def laws_toRepo (x0 : Vm.Repo) : Option (Vm.Repo) :=
 (Vm.laws_toCommitS x0.Commits).bind fun a =>
 (Vm.laws_toHeadS x0.Heads).bind fun b =>
 some (Vm.Repo.mk a b)
def spec_l1In (x0 : Int) (x1 : Int) (x2 : Int) : Option (Bool) :=
 jn (fun (b : Bool) =>
 some b) fun a =>
 bif decide ((x1 : Int) ≤ (x0 : Int)) then
 (a (decide ((x0 : Int) ≤ (x2 : Int))))
 else
 (a false)
def spec_l4Name_l1 (x0 : Str) (c : Bool → Int → Option (Bool)) : Nat → Bool → Int → Option (Bool)
 | 0, _, _ => none
 | m + 1, d, a =>
 bif decide ((a : Int) < ((x0.length : Int) : Int)) then
 (jn (fun (e : Bool) =>
 bif e then
 (some false)
 else
 (spec_l4Name_l1 x0 c m d (w64 (a + 1)))) fun b =>
 (chM x0 a).bind fun f =>
 bif decide (((UInt8.toNat f : Int) : Int) < (97 : Int)) then
 ((chM x0 a).bind fun g =>
 bif decide (((UInt8.toNat g : Int) : Int) < (48 : Int)) then
 (b true)
 else
 ((chM x0 a).bind fun h =>
 b (decide ((57 : Int) < ((UInt8.toNat h : Int) : Int)))))
 else
 ((chM x0 a).bind fun i =>
 bif decide ((122 : Int) < ((UInt8.toNat i : Int) : Int)) then
 ((chM x0 a).bind fun j =>
 bif decide (((UInt8.toNat j : Int) : Int) < (48 : Int)) then
 (b true)
 else
 ((chM x0 a).bind fun k =>
 b (decide ((57 : Int) < ((UInt8.toNat k : Int) : Int)))))
 else
 (b false)))
 else
 (c d a)
def spec_l4Name (x0 : Str) : Option (Bool) :=
 jn (fun (c : Bool) (d : Int) =>
 (Vm.spec_l1In (x0.length : Int) 1 6).bind fun a =>
 some a) fun b =>
 spec_l4Name_l1 x0 b (((x0.length : Int) - 0).toNat + 1) false 0
def spec_l1Cut_l1 (x0 : Str) (x1 : Byte) (x2 : Int) (d : List Str → Int → Int → Option ((List Str))) : Nat → List Str → Int → Int → Option ((List Str))
 | 0, _, _, _ => none
 | m + 1, b, c, a =>
 jn (fun (g : Bool) =>
 bif g then
 (jn (fun (h : List Str) (i : Int) =>
 spec_l1Cut_l1 x0 x1 x2 d m h i (w64 (a + 1))) fun e =>
 (chM x0 a).bind fun j =>
 bif (((UInt8.toNat j : Int) : Int) == ((UInt8.toNat x1 : Int) : Int)) then
 ((slM x0 c a).bind fun k =>
 (apM b [k]).bind fun l =>
 e l (w64 (a + 1)))
 else
 (e b c))
 else
 (d b c a)) fun f =>
 bif decide ((a : Int) < ((x0.length : Int) : Int)) then
 (f (decide (((b.length : Int) : Int) < (x2 : Int))))
 else
 (f false)
def spec_l1Cut (x0 : Str) (x1 : Byte) (x2 : Int) : Option ((List Str)) :=
 jn (fun (a : List Str) (b : Int) (f : Int) =>
 (slM x0 b (x0.length : Int)).bind fun c =>
 (apM a [c]).bind fun d =>
 some d) fun e =>
 spec_l1Cut_l1 x0 x1 x2 e (x0.length + 1) ([] : List Str) 0 0
def spec_l4Path_l1 (b : (List Str)) (c : Bool → Int → Option (Bool)) : Nat → Bool → Int → Option (Bool)
 | 0, _, _ => none
 | m + 1, d, a =>
 bif decide ((a : Int) < ((b.length : Int) : Int)) then
 ((gi b a).bind fun e =>
 (Vm.spec_l4Name e).bind fun f =>
 bif (!f) then
 (some false)
 else
 (spec_l4Path_l1 b c m d (w64 (a + 1))))
 else
 (c d a)
def spec_l4Path (x0 : Str) : Option (Bool) :=
 (Vm.spec_l1Cut x0 (UInt8.ofNatLT 47 (by decide) : Byte) 3).bind fun a =>
 jn (fun (c : Bool) (d : Int) =>
 some (decide (((a.length : Int) : Int) ≤ (3 : Int)))) fun b =>
 spec_l4Path_l1 a b (((a.length : Int) - 0).toNat + 1) false 0
def spec_l1Line_l1 (x0 : Str) (b : Bool → Int → Option (Bool)) : Nat → Bool → Int → Option (Bool)
 | 0, _, _ => none
 | m + 1, c, a =>
 bif decide ((a : Int) < ((x0.length : Int) : Int)) then
 (jn (fun (e : Bool) =>
 bif e then
 (some false)
 else
 (spec_l1Line_l1 x0 b m c (w64 (a + 1)))) fun d =>
 (chM x0 a).bind fun f =>
 bif decide (((UInt8.toNat f : Int) : Int) < (32 : Int)) then
 (d true)
 else
 ((chM x0 a).bind fun g =>
 d (decide ((126 : Int) < ((UInt8.toNat g : Int) : Int)))))
 else
 (b c a)
def spec_l1Line (x0 : Str) : Option (Bool) :=
 jn (fun (b : Bool) (c : Int) =>
 some (decide (((x0.length : Int) : Int) ≤ (12 : Int)))) fun a =>
 spec_l1Line_l1 x0 a (((x0.length : Int) - 0).toNat + 1) false 0
def spec_l1Ok_l1 (x0 : List Str) (b : Bool → Int → Option (Bool)) : Nat → Bool → Int → Option (Bool)
 | 0, _, _ => none
 | m + 1, c, a =>
 bif decide ((a : Int) < ((x0.length : Int) : Int)) then
 ((gi x0 a).bind fun d =>
 (Vm.spec_l1Line d).bind fun e =>
 bif (!e) then
 (some false)
 else
 (spec_l1Ok_l1 x0 b m c (w64 (a + 1))))
 else
 (b c a)
def spec_l1Ok (x0 : List Str) : Option (Bool) :=
 jn (fun (b : Bool) (c : Int) =>
 some (decide (((x0.length : Int) : Int) ≤ (10 : Int)))) fun a =>
 spec_l1Ok_l1 x0 a (((x0.length : Int) - 0).toNat + 1) false 0
def spec_l4In (x0 : Str) (x1 : Str) : Option (Bool) :=
 jn (fun (b : Bool) =>
 some b) fun a =>
 bif decide (((x0.length : Int) : Int) < ((x1.length : Int) : Int)) then
 ((slM x1 0 (x0.length : Int)).bind fun c =>
 bif (c == x0) then
 ((chM x1 (x0.length : Int)).bind fun d =>
 a (((UInt8.toNat d : Int) : Int) == (47 : Int)))
 else
 (a false))
 else
 (a false)
def spec_l4Ok_l2 (x0 : List Vm.File) (b : Int) (c : Bool → Int → Option (Bool)) : Nat → Bool → Int → Option (Bool)
 | 0, _, _ => none
 | m + 1, d, a =>
 bif decide ((a : Int) < ((x0.length : Int) : Int)) then
 ((gi x0 b).bind fun e =>
 (gi x0 a).bind fun f =>
 (Vm.spec_l4In e.Path f.Path).bind fun g =>
 bif g then
 (some false)
 else
 (spec_l4Ok_l2 x0 b c m d (w64 (a + 1))))
 else
 (c d a)
def spec_l4Ok_l1 (x0 : List Vm.File) (c : Bool → Int → Option (Bool)) : Nat → Bool → Int → Option (Bool)
 | 0, _, _ => none
 | m + 1, d, a =>
 bif decide ((a : Int) < ((x0.length : Int) : Int)) then
 (jn (fun (g : Bool) =>
 bif g then
 (some false)
 else
 (jn (fun (h : Bool) (o : Int) =>
 spec_l4Ok_l1 x0 c m h (w64 (a + 1))) fun i =>
 spec_l4Ok_l2 x0 a i (((x0.length : Int) - 0).toNat + 1) d 0)) fun b =>
 (gi x0 a).bind fun j =>
 (Vm.spec_l4Path j.Path).bind fun k =>
 bif (!k) then
 (b true)
 else
 ((gi x0 a).bind fun l =>
 (Vm.spec_l1Ok l.Text).bind fun n =>
 bif (!n) then
 (b true)
 else
 (bif decide ((0 : Int) < (a : Int)) then
 ((gi x0 a).bind fun e =>
 (gi x0 (w64 (a - 1))).bind fun f =>
 b (Op.bytesLess e.Path f.Path || e.Path == f.Path))
 else
 (b false))))
 else
 (c d a)
def spec_l4Ok (x0 : List Vm.File) : Option (Bool) :=
 jn (fun (b : Bool) (c : Int) =>
 some (decide (((x0.length : Int) : Int) ≤ (8 : Int)))) fun a =>
 spec_l4Ok_l1 x0 a (((x0.length : Int) - 0).toNat + 1) false 0
def spec_l7Ok_l2 (d : Int) (b : Vm.Commit) (e : Bool → Int → Option (Bool)) : Nat → Bool → Int → Option (Bool)
 | 0, _, _ => none
 | m + 1, f, a =>
 bif decide ((a : Int) < ((b.Parents.length : Int) : Int)) then
 (jn (fun (g : Bool) =>
 bif g then
 (some false)
 else
 (spec_l7Ok_l2 d b e m f (w64 (a + 1)))) fun c =>
 (gi b.Parents a).bind fun h =>
 (Vm.spec_l1In h 0 (w64 (d - 1))).bind fun i =>
 bif (!i) then
 (c true)
 else
 (bif decide ((0 : Int) < (a : Int)) then
 ((gi b.Parents a).bind fun j =>
 (gi b.Parents 0).bind fun k =>
 c ((j : Int) == (k : Int)))
 else
 (c false)))
 else
 (e f a)
def spec_l7Ok_l3 (x0 : Vm.Repo) (c : Bool → Int → Option (Bool)) : Nat → Bool → Int → Option (Bool)
 | 0, _, _ => none
 | m + 1, d, a =>
 bif decide ((a : Int) < ((x0.Heads.length : Int) : Int)) then
 (jn (fun (g : Bool) =>
 bif g then
 (some false)
 else
 (spec_l7Ok_l3 x0 c m d (w64 (a + 1)))) fun b =>
 (gi x0.Heads a).bind fun h =>
 (Vm.spec_l4Name h.Name).bind fun i =>
 bif (!i) then
 (b true)
 else
 ((gi x0.Heads a).bind fun j =>
 (Vm.spec_l1In j.At 0 (w64 ((x0.Commits.length : Int) - 1))).bind fun k =>
 bif (!k) then
 (b true)
 else
 (bif decide ((0 : Int) < (a : Int)) then
 ((gi x0.Heads a).bind fun e =>
 (gi x0.Heads (w64 (a - 1))).bind fun f =>
 b (Op.bytesLess e.Name f.Name || e.Name == f.Name))
 else
 (b false))))
 else
 (c d a)
def spec_l7Ok_l1 (x0 : Vm.Repo) (d : Bool → Int → Option (Bool)) : Nat → Bool → Int → Option (Bool)
 | 0, _, _ => none
 | m + 1, e, a =>
 bif decide ((a : Int) < ((x0.Commits.length : Int) : Int)) then
 ((gi x0.Commits a).bind fun b =>
 jn (fun (f : Bool) (k : Int) =>
 jn (fun (g : Bool) =>
 bif g then
 (some false)
 else
 (spec_l7Ok_l1 x0 d m f (w64 (a + 1)))) fun c =>
 bif decide ((2 : Int) < ((b.Parents.length : Int) : Int)) then
 (c true)
 else
 ((Vm.spec_l4Name b.Who).bind fun h =>
 bif (!h) then
 (c true)
 else
 ((Vm.spec_l4Ok b.Tree).bind fun i =>
 c (!i)))) fun j =>
 spec_l7Ok_l2 a b j (((b.Parents.length : Int) - 0).toNat + 1) e 0)
 else
 (d e a)
def spec_l7Ok (x0 : Vm.Repo) : Option (Bool) :=
 jn (fun (b : Bool) (f : Int) =>
 jn (fun (g : Bool) (h : Int) =>
 jn (fun (c : Bool) =>
 some c) fun a =>
 bif decide (((x0.Commits.length : Int) : Int) ≤ (16 : Int)) then
 (a (decide (((x0.Heads.length : Int) : Int) ≤ (5 : Int))))
 else
 (a false)) fun d =>
 spec_l7Ok_l3 x0 d (((x0.Heads.length : Int) - 0).toNat + 1) b 0) fun e =>
 spec_l7Ok_l1 x0 e (((x0.Commits.length : Int) - 0).toNat + 1) false 0
def spec_l7At_l1 (x0 : Vm.Repo) (x1 : Str) (b : Int → Int → Option (Int)) : Nat → Int → Int → Option (Int)
 | 0, _, _ => none
 | m + 1, c, a =>
 bif decide ((a : Int) < ((x0.Heads.length : Int) : Int)) then
 ((gi x0.Heads a).bind fun d =>
 bif (d.Name == x1) then
 ((gi x0.Heads a).bind fun e =>
 some e.At)
 else
 (spec_l7At_l1 x0 x1 b m c (w64 (a + 1))))
 else
 (b c a)
def spec_l7At (x0 : Vm.Repo) (x1 : Str) : Option (Int) :=
 jn (fun (b : Int) (c : Int) =>
 some (-1)) fun a =>
 spec_l7At_l1 x0 x1 a (((x0.Heads.length : Int) - 0).toNat + 1) 0 0
def spec_l4Copy_l1 (x0 : List Vm.File) (b : List Vm.File → Int → Option ((List Vm.File))) : Nat → List Vm.File → Int → Option ((List Vm.File))
 | 0, _, _ => none
 | m + 1, c, a =>
 bif decide ((a : Int) < ((x0.length : Int) : Int)) then
 ((gi x0 a).bind fun d =>
 (gi x0 a).bind fun e =>
 (apM ([] : List Str) e.Text).bind fun f =>
 (apM c [Vm.File.mk d.Path f]).bind fun g =>
 spec_l4Copy_l1 x0 b m g (w64 (a + 1)))
 else
 (b c a)
def spec_l4Copy (x0 : List Vm.File) : Option ((List Vm.File)) :=
 jn (fun (a : List Vm.File) (c : Int) =>
 some a) fun b =>
 spec_l4Copy_l1 x0 b (((x0.length : Int) - 0).toNat + 1) ([] : List File) 0
def spec_l7CopyCommit (x0 : Vm.Commit) : Option (Vm.Commit) :=
 (apM ([] : List Int) x0.Parents).bind fun a =>
 (Vm.spec_l4Copy x0.Tree).bind fun b =>
 some (Vm.Commit.mk a x0.Who b)
def spec_l7Copy_l1 (x0 : Vm.Repo) (c : Int → List Vm.Commit → List Vm.Head → Option (Vm.Repo)) : Nat → Int → List Vm.Commit → List Vm.Head → Option (Vm.Repo)
 | 0, _, _, _ => none
 | m + 1, a, d, e =>
 bif decide ((a : Int) < ((x0.Commits.length : Int) : Int)) then
 ((gi x0.Commits a).bind fun f =>
 (Vm.spec_l7CopyCommit f).bind fun b =>
 (apM d [Vm.Commit.mk b.Parents b.Who b.Tree]).bind fun g =>
 spec_l7Copy_l1 x0 c m (w64 (a + 1)) g e)
 else
 (c a d e)
def spec_l7Copy (x0 : Vm.Repo) : Option (Vm.Repo) :=
 (apM ([] : List Head) x0.Heads).bind fun a =>
 jn (fun (e : Int) (b : List Vm.Commit) (c : List Vm.Head) =>
 some (Vm.Repo.mk b c)) fun d =>
 spec_l7Copy_l1 x0 d (((x0.Commits.length : Int) - 0).toNat + 1) 0 ([] : List Commit) a
def spec_l10Ahead (x0 : Vm.Repo) (x1 : Int) : Option ((List Vm.File)) :=
 (gi x0.Commits x1).bind fun a =>
 bif (((a.Parents.length : Int) : Int) == (0 : Int)) then
 (some ([] : List File))
 else
 ((gi x0.Commits x1).bind fun b =>
 (gi b.Parents 0).bind fun c =>
 (gi x0.Commits c).bind fun d =>
 some d.Tree)
def spec_l5Put_l1 (x0 : List Str) (x1 : Str) (b : Int → Option ((List Str))) : Nat → Int → Option ((List Str))
 | 0, _ => none
 | m + 1, a =>
 jn (fun (d : Bool) =>
 bif d then
 (spec_l5Put_l1 x0 x1 b m (w64 (a + 1)))
 else
 (b a)) fun c =>
 bif decide ((a : Int) < ((x0.length : Int) : Int)) then
 ((gi x0 a).bind fun e =>
 c (Op.bytesLess e x1))
 else
 (c false)
def spec_l5Put (x0 : List Str) (x1 : Str) : Option ((List Str)) :=
 jn (fun (a : Int) =>
 jn (fun (c : Bool) =>
 bif c then
 (some x0)
 else
 ((slM x0 0 a).bind fun d =>
 (apM ([] : List Str) d).bind fun e =>
 (apM e [x1]).bind fun f =>
 (slM x0 a (x0.length : Int)).bind fun g =>
 (apM f g).bind fun h =>
 some h)) fun b =>
 bif decide ((a : Int) < ((x0.length : Int) : Int)) then
 ((gi x0 a).bind fun i =>
 b (i == x1))
 else
 (b false)) fun j =>
 spec_l5Put_l1 x0 x1 j (x0.length + 1) 0
def spec_l6Paths_l3 (x2 : List Vm.File) (b : List Str → Int → Option ((List Str))) : Nat → List Str → Int → Option ((List Str))
 | 0, _, _ => none
 | m + 1, c, a =>
 bif decide ((a : Int) < ((x2.length : Int) : Int)) then
 ((gi x2 a).bind fun d =>
 (Vm.spec_l5Put c d.Path).bind fun e =>
 spec_l6Paths_l3 x2 b m e (w64 (a + 1)))
 else
 (b c a)
def spec_l6Paths_l2 (x1 : List Vm.File) (b : List Str → Int → Option ((List Str))) : Nat → List Str → Int → Option ((List Str))
 | 0, _, _ => none
 | m + 1, c, a =>
 bif decide ((a : Int) < ((x1.length : Int) : Int)) then
 ((gi x1 a).bind fun d =>
 (Vm.spec_l5Put c d.Path).bind fun e =>
 spec_l6Paths_l2 x1 b m e (w64 (a + 1)))
 else
 (b c a)
def spec_l6Paths_l1 (x0 : List Vm.File) (b : List Str → Int → Option ((List Str))) : Nat → List Str → Int → Option ((List Str))
 | 0, _, _ => none
 | m + 1, c, a =>
 bif decide ((a : Int) < ((x0.length : Int) : Int)) then
 ((gi x0 a).bind fun d =>
 (Vm.spec_l5Put c d.Path).bind fun e =>
 spec_l6Paths_l1 x0 b m e (w64 (a + 1)))
 else
 (b c a)
def spec_l6Paths (x0 : List Vm.File) (x1 : List Vm.File) (x2 : List Vm.File) : Option ((List Str)) :=
 jn (fun (a : List Str) (g : Int) =>
 jn (fun (b : List Str) (h : Int) =>
 jn (fun (c : List Str) (i : Int) =>
 some c) fun d =>
 spec_l6Paths_l3 x2 d (((x2.length : Int) - 0).toNat + 1) b 0) fun e =>
 spec_l6Paths_l2 x1 e (((x1.length : Int) - 0).toNat + 1) a 0) fun f =>
 spec_l6Paths_l1 x0 f (((x0.length : Int) - 0).toNat + 1) ([] : List Str) 0
def spec_l4Get_l1 (x0 : List Vm.File) (x1 : Str) (b : List Str → Bool → Int → Option ((List Str) × Bool)) : Nat → List Str → Bool → Int → Option ((List Str) × Bool)
 | 0, _, _, _ => none
 | m + 1, c, d, a =>
 bif decide ((a : Int) < ((x0.length : Int) : Int)) then
 ((gi x0 a).bind fun e =>
 bif (e.Path == x1) then
 ((gi x0 a).bind fun f =>
 some (f.Text, true))
 else
 (spec_l4Get_l1 x0 x1 b m c d (w64 (a + 1))))
 else
 (b c d a)
def spec_l4Get (x0 : List Vm.File) (x1 : Str) : Option ((List Str) × Bool) :=
 jn (fun (b : List Str) (c : Bool) (d : Int) =>
 some (([] : List Str), false)) fun a =>
 spec_l4Get_l1 x0 x1 a (((x0.length : Int) - 0).toNat + 1) ([] : List Str) false 0
def spec_l1Same_l1 (x0 : List Str) (x1 : List Str) (b : Bool → Int → Option (Bool)) : Nat → Bool → Int → Option (Bool)
 | 0, _, _ => none
 | m + 1, c, a =>
 bif decide ((a : Int) < ((x0.length : Int) : Int)) then
 ((gi x0 a).bind fun d =>
 (gi x1 a).bind fun e =>
 bif (d != e) then
 (some false)
 else
 (spec_l1Same_l1 x0 x1 b m c (w64 (a + 1))))
 else
 (b c a)
def spec_l1Same (x0 : List Str) (x1 : List Str) : Option (Bool) :=
 bif (((x0.length : Int) : Int) != ((x1.length : Int) : Int)) then
 (some false)
 else
 (jn (fun (b : Bool) (c : Int) =>
 some true) fun a =>
 spec_l1Same_l1 x0 x1 a (((x0.length : Int) - 0).toNat + 1) false 0)
def spec_l6Same (x0 : List Str) (x1 : Bool) (x2 : List Str) (x3 : Bool) : Option (Bool) :=
 jn (fun (b : Bool) =>
 some b) fun a =>
 bif (x1 == x3) then
 (bif (!x1) then
 (a true)
 else
 ((Vm.spec_l1Same x0 x2).bind fun c =>
 a c))
 else
 (a false)
def spec_l1Table_l3 (x0 : List Str) (x1 : List Str) (b : Int) (e : Int → List (List Int) → Option ((List (List Int)))) : Nat → Int → List (List Int) → Option ((List (List Int)))
 | 0, _, _ => none
 | m + 1, a, c =>
 bif decide ((0 : Int) ≤ (a : Int)) then
 (jn (fun (h : List (List Int)) =>
 spec_l1Table_l3 x0 x1 b e m (w64 (a - 1)) h) fun d =>
 (gi x0 b).bind fun i =>
 (gi x1 a).bind fun j =>
 bif (i == j) then
 ((gi c b).bind fun u64 =>
 (gi c (w64 (b + 1))).bind fun k =>
 (gi k (w64 (a + 1))).bind fun l =>
 (gi u64 a).bind fun B =>
 (siM u64 a (w64 (l + 1))).bind fun n =>
 (siM c b n).bind fun o =>
 d o)
 else
 ((gi c (w64 (b + 1))).bind fun p =>
 (gi p a).bind fun q =>
 (gi c b).bind fun r =>
 (gi r (w64 (a + 1))).bind fun s =>
 bif decide ((s : Int) ≤ (q : Int)) then
 ((gi c b).bind fun f =>
 (gi c (w64 (b + 1))).bind fun t =>
 (gi t a).bind fun u =>
 (gi f a).bind fun C =>
 (siM f a u).bind fun v =>
 (siM c b v).bind fun w =>
 d w)
 else
 ((gi c b).bind fun g =>
 (gi c b).bind fun x =>
 (gi x (w64 (a + 1))).bind fun y =>
 (gi g a).bind fun D =>
 (siM g a y).bind fun z =>
 (siM c b z).bind fun A =>
 d A)))
 else
 (e a c)
def spec_l1Table_l2 (x0 : List Str) (x1 : List Str) (b : Int → List (List Int) → Option ((List (List Int)))) : Nat → Int → List (List Int) → Option ((List (List Int)))
 | 0, _, _ => none
 | m + 1, a, c =>
 bif decide ((0 : Int) ≤ (a : Int)) then
 (jn (fun (f : Int) (d : List (List Int)) =>
 spec_l1Table_l2 x0 x1 b m (w64 (a - 1)) d) fun e =>
 spec_l1Table_l3 x0 x1 a e (((w64 ((x1.length : Int) - 1)) + 1 - 0).toNat + 1) (w64 ((x1.length : Int) - 1)) c)
 else
 (b a c)
def spec_l1Table_l1 (x0 : List Str) (x1 : List Str) (b : List (List Int) → Int → Option ((List (List Int)))) : Nat → List (List Int) → Int → Option ((List (List Int)))
 | 0, _, _ => none
 | m + 1, c, a =>
 bif decide ((a : Int) ≤ ((x0.length : Int) : Int)) then
 ((mkM (w64 ((x1.length : Int) + 1)) (0 : Int)).bind fun d =>
 (apM c [d]).bind fun e =>
 spec_l1Table_l1 x0 x1 b m e (w64 (a + 1)))
 else
 (b c a)
def spec_l1Table (x0 : List Str) (x1 : List Str) : Option ((List (List Int))) :=
 jn (fun (a : List (List Int)) (e : Int) =>
 jn (fun (f : Int) (b : List (List Int)) =>
 some b) fun c =>
 spec_l1Table_l2 x0 x1 c (((w64 ((x0.length : Int) - 1)) + 1 - 0).toNat + 1) (w64 ((x0.length : Int) - 1)) a) fun d =>
 spec_l1Table_l1 x0 x1 d (((x0.length : Int) + 1 - 0).toNat + 1) ([] : List (List Int)) 0
def spec_l1Match_l1 (x0 : List Str) (x1 : List Str) (c : (List (List Int))) (d : List Int → Int → Int → Option ((List Int))) : Nat → List Int → Int → Int → Option ((List Int))
 | 0, _, _, _ => none
 | m + 1, e, a, b =>
 bif decide ((b : Int) < ((x0.length : Int) : Int)) then
 (jn (fun (h : Bool) =>
 bif h then
 ((apM e [a]).bind fun i =>
 spec_l1Match_l1 x0 x1 c d m i (w64 (a + 1)) (w64 (b + 1)))
 else
 (jn (fun (j : Bool) =>
 bif j then
 ((apM e [(-1)]).bind fun k =>
 spec_l1Match_l1 x0 x1 c d m k a (w64 (b + 1)))
 else
 (spec_l1Match_l1 x0 x1 c d m e (w64 (a + 1)) b)) fun f =>
 bif decide (((x1.length : Int) : Int) ≤ (a : Int)) then
 (f true)
 else
 ((gi c (w64 (b + 1))).bind fun l =>
 (gi l a).bind fun n =>
 (gi c b).bind fun o =>
 (gi o (w64 (a + 1))).bind fun p =>
 f (decide ((p : Int) ≤ (n : Int)))))) fun g =>
 bif decide ((a : Int) < ((x1.length : Int) : Int)) then
 ((gi x0 b).bind fun q =>
 (gi x1 a).bind fun r =>
 g (q == r))
 else
 (g false))
 else
 (d e a b)
def spec_l1Match (x0 : List Str) (x1 : List Str) : Option ((List Int)) :=
 (Vm.spec_l1Table x0 x1).bind fun a =>
 jn (fun (b : List Int) (d : Int) (e : Int) =>
 some b) fun c =>
 spec_l1Match_l1 x0 x1 a c (x0.length + x1.length + 1) ([] : List Int) 0 0
def spec_l3Part (x0 : List Str) (x1 : List Str) (x2 : List Str) : Option (Vm.Part) :=
 jn (fun (c : Bool) =>
 bif c then
 ((apM ([] : List Str) x2).bind fun d =>
 some (Vm.Part.mk false d ([] : List Str) ([] : List Str) ([] : List Str)))
 else
 ((Vm.spec_l1Same x2 x0).bind fun e =>
 bif e then
 ((apM ([] : List Str) x1).bind fun f =>
 some (Vm.Part.mk false f ([] : List Str) ([] : List Str) ([] : List Str)))
 else
 ((apM ([] : List Str) x0).bind fun g =>
 (apM ([] : List Str) x1).bind fun h =>
 (apM ([] : List Str) x2).bind fun i =>
 some (Vm.Part.mk true ([] : List Str) g h i)))) fun a =>
 (Vm.spec_l1Same x1 x0).bind fun b =>
 bif b then
 (a b)
 else
 ((Vm.spec_l1Same x1 x2).bind fun j =>
 a j)
def spec_l3Put (x0 : List Vm.Part) (x1 : Vm.Part) : Option ((List Vm.Part)) :=
 jn (fun (d : Bool) =>
 bif d then
 (some x0)
 else
 (jn (fun (e : Bool) =>
 bif e then
 ((gi x0 (w64 ((x0.length : Int) - 1))).bind fun a =>
 (apM a.Lines x1.Lines).bind fun f =>
 (gi x0 (w64 ((x0.length : Int) - 1))).bind fun j =>
 (siM x0 (w64 ((x0.length : Int) - 1)) (Vm.Part.mk a.Clash f a.Old a.One a.Two)).bind fun g =>
 some g)
 else
 ((apM x0 [Vm.Part.mk x1.Clash x1.Lines x1.Old x1.One x1.Two]).bind fun h =>
 some h)) fun b =>
 bif decide ((0 : Int) < ((x0.length : Int) : Int)) then
 (bif (!x1.Clash) then
 ((gi x0 (w64 ((x0.length : Int) - 1))).bind fun i =>
 b (!i.Clash))
 else
 (b false))
 else
 (b false))) fun c =>
 bif (!x1.Clash) then
 (c (((x1.Lines.length : Int) : Int) == (0 : Int)))
 else
 (c false)
def spec_l3Of_l1 (x0 : List Str) (x1 : List Str) (x2 : List Str) (b : List Int) (d : List Int) (i : List Vm.Part → Int → Int → Int → Int → Option ((List Vm.Part))) : Nat → List Vm.Part → Int → Int → Int → Int → Option ((List Vm.Part))
 | 0, _, _, _, _, _ => none
 | m + 1, e, f, g, h, a =>
 bif decide ((a : Int) < ((b.length : Int) : Int)) then
 (jn (fun (o : List Vm.Part) (p : Int) (q : Int) (r : Int) =>
 spec_l3Of_l1 x0 x1 x2 b d i m o p q r (w64 (a + 1))) fun j =>
 jn (fun (s : Bool) =>
 bif s then
 (j e f g h)
 else
 ((slM x0 f a).bind fun t =>
 (gi b a).bind fun u =>
 (slM x1 g u).bind fun v =>
 (gi d a).bind fun w =>
 (slM x2 h w).bind fun x =>
 (Vm.spec_l3Part t v x).bind fun c =>
 (Vm.spec_l3Put e (Vm.Part.mk c.Clash c.Lines c.Old c.One c.Two)).bind fun k =>
 jn (fun (y : List Vm.Part) =>
 (gi b a).bind fun z =>
 (gi d a).bind fun A =>
 j y (w64 (a + 1)) (w64 (z + 1)) (w64 (A + 1))) fun l =>
 bif decide ((a : Int) < ((x0.length : Int) : Int)) then
 ((gi x0 a).bind fun B =>
 (Vm.spec_l3Put k (Vm.Part.mk false ([B] : List Str) ([] : List Str) ([] : List Str) ([] : List Str))).bind fun C =>
 l C)
 else
 (l k))) fun n =>
 (gi b a).bind fun D =>
 bif decide ((D : Int) < (0 : Int)) then
 (n true)
 else
 ((gi d a).bind fun E =>
 n (decide ((E : Int) < (0 : Int)))))
 else
 (i e f g h a)
def spec_l3Of (x0 : List Str) (x1 : List Str) (x2 : List Str) : Option ((List Vm.Part)) :=
 (Vm.spec_l1Match x0 x1).bind fun b =>
 (apM b [(x1.length : Int)]).bind fun a =>
 (Vm.spec_l1Match x0 x2).bind fun c =>
 (apM c [(x2.length : Int)]).bind fun d =>
 jn (fun (e : List Vm.Part) (g : Int) (h : Int) (i : Int) (j : Int) =>
 some e) fun f =>
 spec_l3Of_l1 x0 x1 x2 a d f (((a.length : Int) - 0).toNat + 1) ([] : List Part) 0 0 0 0
def spec_l3Text_l1 (x0 : List Vm.Part) (b : List Str → Bool → List Str → Int → Option ((List Str) × Bool)) : Nat → List Str → Bool → List Str → Int → Option ((List Str) × Bool)
 | 0, _, _, _, _ => none
 | m + 1, c, d, e, a =>
 bif decide ((a : Int) < ((x0.length : Int) : Int)) then
 ((gi x0 a).bind fun f =>
 bif f.Clash then
 (some (([] : List Str), false))
 else
 ((gi x0 a).bind fun g =>
 (apM e g.Lines).bind fun h =>
 spec_l3Text_l1 x0 b m c d h (w64 (a + 1))))
 else
 (b c d e a)
def spec_l3Text (x0 : List Vm.Part) : Option ((List Str) × Bool) :=
 jn (fun (d : List Str) (e : Bool) (a : List Str) (f : Int) =>
 (Vm.spec_l1Ok a).bind fun b =>
 bif (!b) then
 (some (([] : List Str), false))
 else
 (some (a, true))) fun c =>
 spec_l3Text_l1 x0 c (((x0.length : Int) - 0).toNat + 1) ([] : List Str) false ([] : List Str) 0
def spec_l6One (x0 : List Vm.File) (x1 : List Vm.File) (x2 : List Vm.File) (x3 : Str) : Option ((List Str) × Bool × Int) :=
 (Vm.spec_l4Get x0 x3).bind fun a =>
 (Vm.spec_l4Get x1 x3).bind fun b =>
 (Vm.spec_l4Get x2 x3).bind fun c =>
 jn (fun (h : Bool) =>
 bif h then
 (some (c.1, c.2, 0))
 else
 ((Vm.spec_l6Same c.1 c.2 a.1 a.2).bind fun i =>
 bif i then
 (some (b.1, b.2, 0))
 else
 (jn (fun (j : Bool) =>
 bif j then
 (some (a.1, a.2, 1))
 else
 (bif (!a.2) then
 (some (([] : List Str), false, 2))
 else
 ((Vm.spec_l3Of a.1 b.1 c.1).bind fun k =>
 (Vm.spec_l3Text k).bind fun d =>
 bif (!d.2) then
 (some (a.1, true, 3))
 else
 (some (d.1, true, 0))))) fun e =>
 bif (!b.2) then
 (e true)
 else
 (e (!c.2))))) fun f =>
 (Vm.spec_l6Same b.1 b.2 a.1 a.2).bind fun g =>
 bif g then
 (f g)
 else
 ((Vm.spec_l6Same b.1 b.2 c.1 c.2).bind fun l =>
 f l)
def spec_l6Of_l1 (x0 : List Vm.File) (x1 : List Vm.File) (x2 : List Vm.File) (b : (List Str)) (f : List Vm.File → List Vm.Clash → Int → Option ((List Vm.File) × (List Vm.Clash))) : Nat → List Vm.File → List Vm.Clash → Int → Option ((List Vm.File) × (List Vm.Clash))
 | 0, _, _, _ => none
 | m + 1, d, e, a =>
 bif decide ((a : Int) < ((b.length : Int) : Int)) then
 (jn (fun (j : List Vm.File) (k : List Vm.Clash) =>
 spec_l6Of_l1 x0 x1 x2 b f m j k (w64 (a + 1))) fun g =>
 (gi b a).bind fun l =>
 (Vm.spec_l6One x0 x1 x2 l).bind fun c =>
 jn (fun (h : List Vm.Clash) =>
 bif c.2.1 then
 ((gi b a).bind fun n =>
 (apM ([] : List Str) c.1).bind fun o =>
 (apM d [Vm.File.mk n o]).bind fun p =>
 g p h)
 else
 (g d h)) fun i =>
 bif decide ((0 : Int) < (c.2.2 : Int)) then
 ((gi b a).bind fun q =>
 (apM e [Vm.Clash.mk q c.2.2]).bind fun r =>
 i r)
 else
 (i e))
 else
 (f d e a)
def spec_l6Of (x0 : List Vm.File) (x1 : List Vm.File) (x2 : List Vm.File) : Option ((List Vm.File) × (List Vm.Clash)) :=
 (Vm.spec_l6Paths x0 x1 x2).bind fun a =>
 jn (fun (b : List Vm.File) (c : List Vm.Clash) (e : Int) =>
 some (b, c)) fun d =>
 spec_l6Of_l1 x0 x1 x2 a d (((a.length : Int) - 0).toNat + 1) ([] : List File) ([] : List Clash) 0
def spec_l6Join (x0 : List Vm.File) (x1 : List Vm.File) (x2 : List Vm.File) : Option ((List Vm.File) × (List Vm.Clash)) :=
 (Vm.spec_l6Of x0 x1 x2).bind fun a =>
 jn (fun (c : Bool) =>
 bif c then
 ((Vm.spec_l4Copy x0).bind fun d =>
 some (d, ([Vm.Clash.mk ([] : Str) 4] : List Clash)))
 else
 (some (a.1, a.2))) fun b =>
 bif (((a.2.length : Int) : Int) == (0 : Int)) then
 ((Vm.spec_l4Ok a.1).bind fun e =>
 b (!e))
 else
 (b false)
def spec_l7Head_l1 (x0 : Vm.Repo) (x1 : Str) (x2 : Int) (e : Bool → Int → List Vm.Commit → List Vm.Head → Option (Vm.Repo)) : Nat → Bool → Int → List Vm.Commit → List Vm.Head → Option (Vm.Repo)
 | 0, _, _, _, _ => none
 | m + 1, b, a, c, d =>
 bif decide ((a : Int) < ((x0.Heads.length : Int) : Int)) then
 (jn (fun (l : Bool) (n : List Vm.Commit) (o : List Vm.Head) =>
 spec_l7Head_l1 x0 x1 x2 e m l (w64 (a + 1)) n o) fun f =>
 jn (fun (g : Bool) (h : List Vm.Commit) (i : List Vm.Head) =>
 (gi x0.Heads a).bind fun p =>
 bif (p.Name != x1) then
 ((gi x0.Heads a).bind fun q =>
 (apM i [q]).bind fun r =>
 f g h r)
 else
 (f g h i)) fun j =>
 jn (fun (s : Bool) =>
 bif s then
 ((apM d [Vm.Head.mk x1 x2]).bind fun t =>
 j true c t)
 else
 (j b c d)) fun k =>
 bif (!b) then
 ((gi x0.Heads a).bind fun u =>
 k (!Op.bytesLess u.Name x1))
 else
 (k false))
 else
 (e b a c d)
def spec_l7Head (x0 : Vm.Repo) (x1 : Str) (x2 : Int) : Option (Vm.Repo) :=
 jn (fun (d : Bool) (i : Int) (a : List Vm.Commit) (b : List Vm.Head) =>
 jn (fun (e : List Vm.Commit) (f : List Vm.Head) =>
 some (Vm.Repo.mk e f)) fun c =>
 bif (!d) then
 ((apM b [Vm.Head.mk x1 x2]).bind fun g =>
 c a g)
 else
 (c a b)) fun h =>
 spec_l7Head_l1 x0 x1 x2 h (((x0.Heads.length : Int) - 0).toNat + 1) false 0 x0.Commits ([] : List Head)
def spec_l7Add (x0 : Vm.Repo) (x1 : Str) (x2 : Vm.Commit) : Option (Vm.Repo) :=
 (apM ([] : List Commit) x0.Commits).bind fun a =>
 (apM a [x2]).bind fun b =>
 (Vm.spec_l7Head (Vm.Repo.mk b x0.Heads) x1 (x0.Commits.length : Int)).bind fun c =>
 some c
def spec_l10Put (x0 : Vm.Repo) (x1 : Str) (x2 : Str) (x3 : List Vm.File) (x4 : List Vm.File) : Option (Vm.Repo × Int) :=
 (Vm.spec_l7At x0 x1).bind fun a =>
 (gi x0.Commits a).bind fun d =>
 (Vm.spec_l6Join x3 d.Tree x4).bind fun b =>
 bif decide ((0 : Int) < ((b.2.length : Int) : Int)) then
 (some (x0, 4))
 else
 ((Vm.spec_l7Add x0 x1 (Vm.Commit.mk ([a] : List Int) x2 b.1)).bind fun c =>
 (Vm.spec_l7Ok c).bind fun e =>
 bif (!e) then
 (some (x0, 5))
 else
 (some (c, 0)))
def impl_within (x0 : Int) (x1 : Int) (x2 : Int) : Option (Bool) :=
 jn (fun (b : Bool) =>
 some b) fun a =>
 bif decide ((x1 : Int) ≤ (x0 : Int)) then
 (a (decide ((x0 : Int) ≤ (x2 : Int))))
 else
 (a false)
def impl_wordByte (x0 : Byte) : Option (Bool) :=
 jn (fun (b : Bool) =>
 some b) fun a =>
 bif decide ((97 : Int) ≤ ((UInt8.toNat x0 : Int) : Int)) then
 (bif decide (((UInt8.toNat x0 : Int) : Int) ≤ (122 : Int)) then
 (a true)
 else
 (bif decide ((48 : Int) ≤ ((UInt8.toNat x0 : Int) : Int)) then
 (a (decide (((UInt8.toNat x0 : Int) : Int) ≤ (57 : Int))))
 else
 (a false)))
 else
 (bif decide ((48 : Int) ≤ ((UInt8.toNat x0 : Int) : Int)) then
 (a (decide (((UInt8.toNat x0 : Int) : Int) ≤ (57 : Int))))
 else
 (a false))
def impl_nameOk_l1 (x0 : Str) (b : Bool → Int → Option (Bool)) : Nat → Bool → Int → Option (Bool)
 | 0, _, _ => none
 | m + 1, c, a =>
 bif decide ((a : Int) < ((x0.length : Int) : Int)) then
 ((chM x0 a).bind fun d =>
 (Vm.impl_wordByte d).bind fun e =>
 bif (!e) then
 (some false)
 else
 (impl_nameOk_l1 x0 b m c (w64 (a + 1))))
 else
 (b c a)
def impl_nameOk (x0 : Str) : Option (Bool) :=
 (Vm.impl_within (x0.length : Int) 1 6).bind fun a =>
 bif (!a) then
 (some false)
 else
 (jn (fun (c : Bool) (d : Int) =>
 some true) fun b =>
 impl_nameOk_l1 x0 b (((x0.length : Int) - 0).toNat + 1) false 0)
def impl_lineOk_l1 (x0 : Str) (b : Bool → Int → Option (Bool)) : Nat → Bool → Int → Option (Bool)
 | 0, _, _ => none
 | m + 1, c, a =>
 bif decide ((a : Int) < ((x0.length : Int) : Int)) then
 (jn (fun (e : Bool) =>
 bif e then
 (some false)
 else
 (impl_lineOk_l1 x0 b m c (w64 (a + 1)))) fun d =>
 (chM x0 a).bind fun f =>
 bif decide (((UInt8.toNat f : Int) : Int) < (32 : Int)) then
 (d true)
 else
 ((chM x0 a).bind fun g =>
 d (decide ((126 : Int) < ((UInt8.toNat g : Int) : Int)))))
 else
 (b c a)
def impl_lineOk (x0 : Str) : Option (Bool) :=
 bif decide ((12 : Int) < ((x0.length : Int) : Int)) then
 (some false)
 else
 (jn (fun (b : Bool) (c : Int) =>
 some true) fun a =>
 impl_lineOk_l1 x0 a (((x0.length : Int) - 0).toNat + 1) false 0)
def impl_TextOk_l1 (x0 : List Str) (b : Bool → Int → Option (Bool)) : Nat → Bool → Int → Option (Bool)
 | 0, _, _ => none
 | m + 1, c, a =>
 bif decide ((a : Int) < ((x0.length : Int) : Int)) then
 ((gi x0 a).bind fun d =>
 (Vm.impl_lineOk d).bind fun e =>
 bif (!e) then
 (some false)
 else
 (impl_TextOk_l1 x0 b m c (w64 (a + 1))))
 else
 (b c a)
def impl_TextOk (x0 : List Str) : Option (Bool) :=
 bif decide ((10 : Int) < ((x0.length : Int) : Int)) then
 (some false)
 else
 (jn (fun (b : Bool) (c : Int) =>
 some true) fun a =>
 impl_TextOk_l1 x0 a (((x0.length : Int) - 0).toNat + 1) false 0)
def strings_Split (x0 : Str) (x1 : Str) : Option ((List Str)) :=
 if x0.length ≤ 4294967000 ∧ 1 ≤ x1.length then some (Go.Lib.split x0 x1) else none
def impl_PathOk_l1 (b : (List Str)) (c : Bool → Int → Option (Bool)) : Nat → Bool → Int → Option (Bool)
 | 0, _, _ => none
 | m + 1, d, a =>
 bif decide ((a : Int) < ((b.length : Int) : Int)) then
 ((gi b a).bind fun e =>
 (Vm.impl_nameOk e).bind fun f =>
 bif (!f) then
 (some false)
 else
 (impl_PathOk_l1 b c m d (w64 (a + 1))))
 else
 (c d a)
def impl_PathOk (x0 : Str) : Option (Bool) :=
 (Vm.strings_Split x0 ([47] : Str)).bind fun a =>
 bif decide ((3 : Int) < ((a.length : Int) : Int)) then
 (some false)
 else
 (jn (fun (c : Bool) (d : Int) =>
 some true) fun b =>
 impl_PathOk_l1 a b (((a.length : Int) - 0).toNat + 1) false 0)
def strings_HasPrefix (x0 : Str) (x1 : Str) : Option (Bool) :=
 some (Go.Lib.hasPrefix x0 x1)
def impl_PathIn (x0 : Str) (x1 : Str) : Option (Bool) :=
 jn (fun (b : Bool) =>
 some b) fun a =>
 (Vm.impl_PathOk x0).bind fun c =>
 bif c then
 ((Vm.impl_PathOk x1).bind fun d =>
 bif d then
 ((saM x0 ([47] : Str)).bind fun e =>
 (Vm.strings_HasPrefix x1 e).bind fun f =>
 a f)
 else
 (a false))
 else
 (a false)
def impl_TreeOk_l2 (c : Vm.File) (b : List Vm.File) (d : Bool → Int → Option (Bool)) : Nat → Bool → Int → Option (Bool)
 | 0, _, _ => none
 | m + 1, e, a =>
 bif decide ((a : Int) < ((b.length : Int) : Int)) then
 ((gi b a).bind fun f =>
 (Vm.impl_PathIn f.Path c.Path).bind fun g =>
 bif g then
 (some false)
 else
 (impl_TreeOk_l2 c b d m e (w64 (a + 1))))
 else
 (d e a)
def impl_TreeOk_l1 (x0 : List Vm.File) (d : Bool → Int → Option (Bool)) : Nat → Bool → Int → Option (Bool)
 | 0, _, _ => none
 | m + 1, e, a =>
 bif decide ((a : Int) < ((x0.length : Int) : Int)) then
 ((gi x0 a).bind fun b =>
 jn (fun (g : Bool) =>
 bif g then
 (some false)
 else
 ((slM x0 0 a).bind fun f =>
 jn (fun (h : Bool) (n : Int) =>
 impl_TreeOk_l1 x0 d m h (w64 (a + 1))) fun i =>
 impl_TreeOk_l2 b f i (((f.length : Int) - 0).toNat + 1) e 0)) fun c =>
 (Vm.impl_TextOk b.Text).bind fun j =>
 bif (!j) then
 (c true)
 else
 ((Vm.impl_PathOk b.Path).bind fun k =>
 bif (!k) then
 (c true)
 else
 (bif decide ((0 : Int) < (a : Int)) then
 ((gi x0 (w64 (a - 1))).bind fun l =>
 c (!Op.bytesLess l.Path b.Path))
 else
 (c false))))
 else
 (d e a)
def impl_TreeOk (x0 : List Vm.File) : Option (Bool) :=
 bif decide ((8 : Int) < ((x0.length : Int) : Int)) then
 (some false)
 else
 (jn (fun (b : Bool) (c : Int) =>
 some true) fun a =>
 impl_TreeOk_l1 x0 a (((x0.length : Int) - 0).toNat + 1) false 0)
def impl_Repo_exists (x0 : Vm.Repo) (x1 : Int) : Option (Bool) :=
 (Vm.impl_within x1 0 (w64 ((x0.Commits.length : Int) - 1))).bind fun a =>
 some a
def impl_headsOk_l1 (x0 : Vm.Repo) (x1 : List Vm.Head) (d : Bool → Int → Option (Bool)) : Nat → Bool → Int → Option (Bool)
 | 0, _, _ => none
 | m + 1, e, a =>
 bif decide ((a : Int) < ((x1.length : Int) : Int)) then
 ((gi x1 a).bind fun c =>
 jn (fun (f : Bool) =>
 bif f then
 (some false)
 else
 (impl_headsOk_l1 x0 x1 d m e (w64 (a + 1)))) fun b =>
 (Vm.impl_nameOk c.Name).bind fun g =>
 bif (!g) then
 (b true)
 else
 ((Vm.impl_Repo_exists x0 c.At).bind fun h =>
 bif (!h) then
 (b true)
 else
 (bif decide ((0 : Int) < (a : Int)) then
 ((gi x1 (w64 (a - 1))).bind fun i =>
 b (!Op.bytesLess i.Name c.Name))
 else
 (b false))))
 else
 (d e a)
def impl_headsOk (x0 : Vm.Repo) (x1 : List Vm.Head) : Option (Bool) :=
 bif decide ((5 : Int) < ((x1.length : Int) : Int)) then
 (some false)
 else
 (jn (fun (b : Bool) (c : Int) =>
 some true) fun a =>
 impl_headsOk_l1 x0 x1 a (((x1.length : Int) - 0).toNat + 1) false 0)
def impl_RepoOk_l2 (c : Int) (b : Vm.Commit) (d : Bool → Int → Option (Bool)) : Nat → Bool → Int → Option (Bool)
 | 0, _, _ => none
 | m + 1, e, a =>
 bif decide ((a : Int) < ((b.Parents.length : Int) : Int)) then
 ((gi b.Parents a).bind fun f =>
 (Vm.impl_within f 0 (w64 (c - 1))).bind fun g =>
 bif (!g) then
 (some false)
 else
 (impl_RepoOk_l2 c b d m e (w64 (a + 1))))
 else
 (d e a)
def impl_RepoOk_l1 (x0 : Vm.Repo) (d : Bool → Int → Option (Bool)) : Nat → Bool → Int → Option (Bool)
 | 0, _, _ => none
 | m + 1, e, c =>
 bif decide ((c : Int) < ((x0.Commits.length : Int) : Int)) then
 ((gi x0.Commits c).bind fun a =>
 jn (fun (f : Bool) =>
 bif f then
 (some false)
 else
 (jn (fun (g : Bool) (p : Int) =>
 impl_RepoOk_l1 x0 d m g (w64 (c + 1))) fun h =>
 impl_RepoOk_l2 c a h (((a.Parents.length : Int) - 0).toNat + 1) e 0)) fun b =>
 bif decide ((2 : Int) < ((a.Parents.length : Int) : Int)) then
 (b true)
 else
 (bif (((a.Parents.length : Int) : Int) == (2 : Int)) then
 ((gi a.Parents 0).bind fun i =>
 (gi a.Parents 1).bind fun j =>
 bif ((i : Int) == (j : Int)) then
 (b true)
 else
 ((Vm.impl_nameOk a.Who).bind fun k =>
 bif (!k) then
 (b true)
 else
 ((Vm.impl_TreeOk a.Tree).bind fun l =>
 b (!l))))
 else
 ((Vm.impl_nameOk a.Who).bind fun n =>
 bif (!n) then
 (b true)
 else
 ((Vm.impl_TreeOk a.Tree).bind fun o =>
 b (!o)))))
 else
 (d e c)
def impl_RepoOk (x0 : Vm.Repo) : Option (Bool) :=
 bif decide ((16 : Int) < ((x0.Commits.length : Int) : Int)) then
 (some false)
 else
 (jn (fun (c : Bool) (d : Int) =>
 (Vm.impl_headsOk x0 x0.Heads).bind fun a =>
 some a) fun b =>
 impl_RepoOk_l1 x0 b (((x0.Commits.length : Int) - 0).toNat + 1) false 0)
def impl_Repo_at_l1 (x0 : Vm.Repo) (x1 : Str) (b : Int → Int → Option (Int)) : Nat → Int → Int → Option (Int)
 | 0, _, _ => none
 | m + 1, c, a =>
 bif decide ((a : Int) < ((x0.Heads.length : Int) : Int)) then
 ((gi x0.Heads a).bind fun d =>
 bif (d.Name == x1) then
 (some d.At)
 else
 (impl_Repo_at_l1 x0 x1 b m c (w64 (a + 1))))
 else
 (b c a)
def impl_Repo_at (x0 : Vm.Repo) (x1 : Str) : Option (Int) :=
 jn (fun (b : Int) (c : Int) =>
 some (-1)) fun a =>
 impl_Repo_at_l1 x0 x1 a (((x0.Heads.length : Int) - 0).toNat + 1) 0 0
def impl_copyText (x0 : List Str) : Option ((List Str)) :=
 (apM ([] : List Str) x0).bind fun a =>
 some a
def impl_copyTree_l1 (x0 : List Vm.File) (b : List Vm.File → Int → Option ((List Vm.File))) : Nat → List Vm.File → Int → Option ((List Vm.File))
 | 0, _, _ => none
 | m + 1, c, a =>
 bif decide ((a : Int) < ((x0.length : Int) : Int)) then
 ((gi x0 a).bind fun d =>
 (Vm.impl_copyText d.Text).bind fun e =>
 (apM c [Vm.File.mk d.Path e]).bind fun f =>
 impl_copyTree_l1 x0 b m f (w64 (a + 1)))
 else
 (b c a)
def impl_copyTree (x0 : List Vm.File) : Option ((List Vm.File)) :=
 jn (fun (a : List Vm.File) (c : Int) =>
 some a) fun b =>
 impl_copyTree_l1 x0 b (((x0.length : Int) - 0).toNat + 1) ([] : List File) 0
def impl_Repo_own_l1 (x0 : Vm.Repo) (c : Int → List Vm.Commit → List Vm.Head → Option (Vm.Repo)) : Nat → Int → List Vm.Commit → List Vm.Head → Option (Vm.Repo)
 | 0, _, _, _ => none
 | m + 1, a, d, e =>
 bif decide ((a : Int) < ((x0.Commits.length : Int) : Int)) then
 ((gi x0.Commits a).bind fun b =>
 (apM ([] : List Int) b.Parents).bind fun f =>
 (Vm.impl_copyTree b.Tree).bind fun g =>
 (apM d [Vm.Commit.mk f b.Who g]).bind fun h =>
 impl_Repo_own_l1 x0 c m (w64 (a + 1)) h e)
 else
 (c a d e)
def impl_Repo_own (x0 : Vm.Repo) : Option (Vm.Repo) :=
 (apM ([] : List Head) x0.Heads).bind fun a =>
 jn (fun (e : Int) (b : List Vm.Commit) (c : List Vm.Head) =>
 some (Vm.Repo.mk b c)) fun d =>
 impl_Repo_own_l1 x0 d (((x0.Commits.length : Int) - 0).toNat + 1) 0 ([] : List Commit) a
def impl_Repo_first (x0 : Vm.Repo) (x1 : Int) : Option (Int) :=
 (gi x0.Commits x1).bind fun a =>
 bif (((a.Parents.length : Int) : Int) == (0 : Int)) then
 (some (-1))
 else
 ((gi x0.Commits x1).bind fun b =>
 (gi b.Parents 0).bind fun c =>
 some c)
def impl_Repo_tree (x0 : Vm.Repo) (x1 : Int) : Option ((List Vm.File)) :=
 bif decide ((x1 : Int) < (0 : Int)) then
 (some ([] : List File))
 else
 ((gi x0.Commits x1).bind fun a =>
 some a.Tree)
def impl_areTrees (x0 : List Vm.File) (x1 : List Vm.File) (x2 : List Vm.File) : Option (Bool) :=
 jn (fun (b : Bool) =>
 some b) fun a =>
 (Vm.impl_TreeOk x0).bind fun c =>
 bif c then
 ((Vm.impl_TreeOk x1).bind fun d =>
 bif d then
 ((Vm.impl_TreeOk x2).bind fun e =>
 a e)
 else
 (a false))
 else
 (a false)
def slices_Sort_string_string (x0 : List Str) : Option ((List Str)) :=
 if x0.length ≤ 4294967296 then some (sortStr x0) else none
def slices_Compact_string_string (x0 : List Str) : Option ((List Str)) :=
 if x0.length ≤ 4294967296 then some (dedup x0) else none
def impl_allPaths_l2 (b : List Vm.File) (c : List Str → Int → Option ((List Str))) : Nat → List Str → Int → Option ((List Str))
 | 0, _, _ => none
 | m + 1, d, a =>
 bif decide ((a : Int) < ((b.length : Int) : Int)) then
 ((gi b a).bind fun e =>
 (apM d [e.Path]).bind fun f =>
 impl_allPaths_l2 b c m f (w64 (a + 1)))
 else
 (c d a)
def impl_allPaths_l1 (x0 : List (List Vm.File)) (b : List Str → Int → Option ((List Str))) : Nat → List Str → Int → Option ((List Str))
 | 0, _, _ => none
 | m + 1, c, a =>
 bif decide ((a : Int) < ((x0.length : Int) : Int)) then
 ((gi x0 a).bind fun d =>
 jn (fun (e : List Str) (g : Int) =>
 impl_allPaths_l1 x0 b m e (w64 (a + 1))) fun f =>
 impl_allPaths_l2 d f (((d.length : Int) - 0).toNat + 1) c 0)
 else
 (b c a)
def impl_allPaths (x0 : List (List Vm.File)) : Option ((List Str)) :=
 jn (fun (a : List Str) (e : Int) =>
 (Vm.slices_Sort_string_string a).bind fun b =>
 (Vm.slices_Compact_string_string b).bind fun c =>
 some c) fun d =>
 impl_allPaths_l1 x0 d (((x0.length : Int) - 0).toNat + 1) ([] : List Str) 0
def impl_get_l1 (x0 : List Vm.File) (x1 : Str) (b : List Str → Bool → Int → Option ((List Str) × Bool)) : Nat → List Str → Bool → Int → Option ((List Str) × Bool)
 | 0, _, _, _ => none
 | m + 1, c, d, a =>
 bif decide ((a : Int) < ((x0.length : Int) : Int)) then
 ((gi x0 a).bind fun e =>
 bif (e.Path == x1) then
 ((Vm.impl_copyText e.Text).bind fun f =>
 some (f, true))
 else
 (impl_get_l1 x0 x1 b m c d (w64 (a + 1))))
 else
 (b c d a)
def impl_get (x0 : List Vm.File) (x1 : Str) : Option ((List Str) × Bool) :=
 jn (fun (b : List Str) (c : Bool) (d : Int) =>
 some (([] : List Str), false)) fun a =>
 impl_get_l1 x0 x1 a (((x0.length : Int) - 0).toNat + 1) ([] : List Str) false 0
def impl_hasAt (x0 : List Vm.File) (x1 : Str) : Option (Vm.has) :=
 (Vm.impl_get x0 x1).bind fun a =>
 some (Vm.has.mk a.1 a.2)
def slices_Equal_string_string_l1 (x0 : List Str) (x1 : List Str) (b : Bool → Int → Option (Bool)) : Nat → Bool → Int → Option (Bool)
 | 0, _, _ => none
 | m + 1, c, a =>
 bif decide ((a : Int) < ((x0.length : Int) : Int)) then
 ((gi x0 a).bind fun d =>
 (gi x1 a).bind fun e =>
 bif (d != e) then
 (some false)
 else
 (slices_Equal_string_string_l1 x0 x1 b m c (w64 (a + 1))))
 else
 (b c a)
def slices_Equal_string_string (x0 : List Str) (x1 : List Str) : Option (Bool) :=
 bif (((x0.length : Int) : Int) != ((x1.length : Int) : Int)) then
 (some false)
 else
 (jn (fun (b : Bool) (c : Int) =>
 some true) fun a =>
 slices_Equal_string_string_l1 x0 x1 a (((x0.length : Int) - 0).toNat + 1) false 0)
def impl_has_same (x0 : Vm.has) (x1 : Vm.has) : Option (Bool) :=
 jn (fun (b : Bool) =>
 some b) fun a =>
 bif (x0.file == x1.file) then
 ((Vm.slices_Equal_string_string x0.text x1.text).bind fun c =>
 a c)
 else
 (a false)
def impl_areTexts (x0 : List Str) (x1 : List Str) (x2 : List Str) : Option (Bool) :=
 jn (fun (b : Bool) =>
 some b) fun a =>
 (Vm.impl_TextOk x0).bind fun c =>
 bif c then
 ((Vm.impl_TextOk x1).bind fun d =>
 bif d then
 ((Vm.impl_TextOk x2).bind fun e =>
 a e)
 else
 (a false))
 else
 (a false)
def impl_lcs_l3 (x0 : List Str) (x1 : List Str) (b : Int) (d : Int → List (List Int) → Option ((List (List Int)))) : Nat → Int → List (List Int) → Option ((List (List Int)))
 | 0, _, _ => none
 | m + 1, a, c =>
 bif decide ((0 : Int) ≤ (a : Int)) then
 (jn (fun (h : List (List Int)) =>
 impl_lcs_l3 x0 x1 b d m (w64 (a - 1)) h) fun e =>
 (gi x0 b).bind fun i =>
 (gi x1 a).bind fun j =>
 bif (i == j) then
 ((gi c b).bind fun f =>
 (gi c (w64 (b + 1))).bind fun k =>
 (gi k (w64 (a + 1))).bind fun l =>
 (gi f a).bind fun v =>
 (siM f a (w64 (l + 1))).bind fun n =>
 (siM c b n).bind fun o =>
 e o)
 else
 ((gi c b).bind fun g =>
 (gi c (w64 (b + 1))).bind fun p =>
 (gi p a).bind fun q =>
 (gi c b).bind fun r =>
 (gi r (w64 (a + 1))).bind fun s =>
 (gi g a).bind fun w =>
 (siM g a (maxI q s)).bind fun t =>
 (siM c b t).bind fun u =>
 e u))
 else
 (d a c)
def impl_lcs_l2 (x0 : List Str) (x1 : List Str) (b : Int → List (List Int) → Option ((List (List Int)))) : Nat → Int → List (List Int) → Option ((List (List Int)))
 | 0, _, _ => none
 | m + 1, a, c =>
 bif decide ((0 : Int) ≤ (a : Int)) then
 (jn (fun (f : Int) (d : List (List Int)) =>
 impl_lcs_l2 x0 x1 b m (w64 (a - 1)) d) fun e =>
 impl_lcs_l3 x0 x1 a e (((w64 ((x1.length : Int) - 1)) + 1 - 0).toNat + 1) (w64 ((x1.length : Int) - 1)) c)
 else
 (b a c)
def impl_lcs_l1 (x1 : List Str) (c : List (List Int)) (d : Int → List (List Int) → Option ((List (List Int)))) : Nat → Int → List (List Int) → Option ((List (List Int)))
 | 0, _, _ => none
 | m + 1, a, b =>
 bif decide ((a : Int) < ((c.length : Int) : Int)) then
 ((mkM (w64 ((x1.length : Int) + 1)) (0 : Int)).bind fun e =>
 (gi b a).bind fun g =>
 (siM b a e).bind fun f =>
 impl_lcs_l1 x1 c d m (w64 (a + 1)) f)
 else
 (d a b)
def impl_lcs (x0 : List Str) (x1 : List Str) : Option ((List (List Int))) :=
 (mkM (w64 ((x0.length : Int) + 1)) (([] : List Int) : List Int)).bind fun a =>
 jn (fun (f : Int) (b : List (List Int)) =>
 jn (fun (g : Int) (c : List (List Int)) =>
 some c) fun d =>
 impl_lcs_l2 x0 x1 d (((w64 ((x0.length : Int) - 1)) + 1 - 0).toNat + 1) (w64 ((x0.length : Int) - 1)) b) fun e =>
 impl_lcs_l1 x1 a e (((a.length : Int) - 0).toNat + 1) 0 a
def impl_match_l1 (x0 : List Str) (x1 : List Str) (c : (List (List Int))) (d : List Int → Int → Int → Option ((List Int))) : Nat → List Int → Int → Int → Option ((List Int))
 | 0, _, _, _ => none
 | m + 1, e, b, a =>
 bif decide ((b : Int) < ((x0.length : Int) : Int)) then
 (jn (fun (h : Bool) =>
 bif h then
 ((apM e [a]).bind fun i =>
 impl_match_l1 x0 x1 c d m i (w64 (b + 1)) (w64 (a + 1)))
 else
 (jn (fun (j : Bool) =>
 bif j then
 ((apM e [(-1)]).bind fun k =>
 impl_match_l1 x0 x1 c d m k (w64 (b + 1)) a)
 else
 (impl_match_l1 x0 x1 c d m e b (w64 (a + 1)))) fun f =>
 bif ((a : Int) == ((x1.length : Int) : Int)) then
 (f true)
 else
 ((gi c (w64 (b + 1))).bind fun l =>
 (gi l a).bind fun n =>
 (gi c b).bind fun u64 =>
 (gi u64 (w64 (a + 1))).bind fun o =>
 f (decide ((o : Int) ≤ (n : Int)))))) fun g =>
 bif decide ((a : Int) < ((x1.length : Int) : Int)) then
 ((gi x0 b).bind fun p =>
 (gi x1 a).bind fun q =>
 g (p == q))
 else
 (g false))
 else
 (d e b a)
def impl_match (x0 : List Str) (x1 : List Str) : Option ((List Int)) :=
 (Vm.impl_lcs x0 x1).bind fun a =>
 jn (fun (b : List Int) (d : Int) (e : Int) =>
 some b) fun c =>
 impl_match_l1 x0 x1 a c (x0.length + x1.length + 1) ([] : List Int) 0 0
def impl_mergeOf_c1 (x0 : List Str) (x1 : List Vm.Part) : Option ((List Vm.Part)) :=
 bif (((x0.length : Int) : Int) == (0 : Int)) then
 (some x1)
 else
 (jn (fun (b : Int) (c : List Vm.Part) =>
 (gi c b).bind fun a =>
 (apM a.Lines x0).bind fun f =>
 (gi c b).bind fun k =>
 (siM c b (Vm.Part.mk a.Clash f a.Old a.One a.Two)).bind fun g =>
 some g) fun d =>
 jn (fun (h : Bool) =>
 bif h then
 ((apM x1 ([Vm.Part.mk false ([] : List Str) ([] : List Str) ([] : List Str) ([] : List Str)])).bind fun i =>
 d (w64 ((w64 ((x1.length : Int) - 1)) + 1)) i)
 else
 (d (w64 ((x1.length : Int) - 1)) x1)) fun e =>
 bif decide ((w64 ((x1.length : Int) - 1) : Int) < (0 : Int)) then
 (e true)
 else
 ((gi x1 (w64 ((x1.length : Int) - 1))).bind fun j =>
 e j.Clash))
def impl_mergeOf_l1 (x0 : List Str) (x1 : List Str) (x2 : List Str) (b : List Int) (d : List Int) (l : Int → Int → Int → Int → List Vm.Part → Option ((List Vm.Part))) : Nat → Int → Int → Int → Int → List Vm.Part → Option ((List Vm.Part))
 | 0, _, _, _, _, _ => none
 | m + 1, g, h, i, a, c =>
 bif decide ((a : Int) < ((b.length : Int) : Int)) then
 (jn (fun (s : Int) (t : Int) (u : Int) (v : List Vm.Part) =>
 impl_mergeOf_l1 x0 x1 x2 b d l m s t u (w64 (a + 1)) v) fun n =>
 jn (fun (w : Bool) =>
 bif w then
 (n g h i c)
 else
 ((slM x0 g a).bind fun j =>
 (gi b a).bind fun x =>
 (slM x1 h x).bind fun e =>
 (gi d a).bind fun y =>
 (slM x2 i y).bind fun f =>
 jn (fun (o : List Vm.Part) =>
 jn (fun (z : List Vm.Part) =>
 (gi b a).bind fun A =>
 (gi d a).bind fun B =>
 n (w64 (a + 1)) (w64 (A + 1)) (w64 (B + 1)) z) fun p =>
 bif decide ((a : Int) < ((x0.length : Int) : Int)) then
 ((slM x0 a (w64 (a + 1))).bind fun C =>
 (Vm.impl_mergeOf_c1 C o).bind fun D =>
 p D)
 else
 (p o)) fun k =>
 jn (fun (E : Bool) =>
 bif E then
 ((Vm.impl_mergeOf_c1 f c).bind fun F =>
 k F)
 else
 ((Vm.slices_Equal_string_string f j).bind fun G =>
 bif G then
 ((Vm.impl_mergeOf_c1 e c).bind fun H =>
 k H)
 else
 ((Vm.impl_copyText j).bind fun I =>
 (Vm.impl_copyText e).bind fun J =>
 (Vm.impl_copyText f).bind fun K =>
 (apM c ([Vm.Part.mk true ([] : List Str) I J K])).bind fun L =>
 k L))) fun q =>
 (Vm.slices_Equal_string_string e j).bind fun M =>
 bif M then
 (q true)
 else
 ((Vm.slices_Equal_string_string e f).bind fun N =>
 q N))) fun r =>
 (gi b a).bind fun O =>
 bif decide ((O : Int) < (0 : Int)) then
 (r true)
 else
 ((gi d a).bind fun P =>
 r (decide ((P : Int) < (0 : Int)))))
 else
 (l g h i a c)
def impl_mergeOf (x0 : List Str) (x1 : List Str) (x2 : List Str) : Option ((List Vm.Part)) :=
 (Vm.impl_match x0 x1).bind fun b =>
 (apM b [(x1.length : Int)]).bind fun a =>
 (Vm.impl_match x0 x2).bind fun c =>
 (apM c [(x2.length : Int)]).bind fun d =>
 jn (fun (g : Int) (h : Int) (i : Int) (j : Int) (e : List Vm.Part) =>
 some e) fun f =>
 impl_mergeOf_l1 x0 x1 x2 a d f (((a.length : Int) - 0).toNat + 1) 0 0 0 0 ([] : List Part)
def impl_MergeText_c1 (x0 : Vm.Part) : Option ((List Str) × Bool) :=
 some (([] : List Str), false)
def impl_merged_at_impl_MergeText_c1_l1 (b : (List Vm.Part)) (f : List Str → Bool → List Str → Int → Option ((List Str) × Bool)) : Nat → List Str → Bool → List Str → Int → Option ((List Str) × Bool)
 | 0, _, _, _, _ => none
 | m + 1, c, d, g, a =>
 bif decide ((a : Int) < ((b.length : Int) : Int)) then
 ((gi b a).bind fun e =>
 jn (fun (j : List Str) (k : Bool) (l : List Str) =>
 (apM g l).bind fun n =>
 impl_merged_at_impl_MergeText_c1_l1 b f m j k n (w64 (a + 1))) fun h =>
 bif e.Clash then
 ((Vm.impl_MergeText_c1 e).bind fun i =>
 bif (!i.2) then
 (some (([] : List Str), false))
 else
 (h c d i.1))
 else
 (h c d e.Lines))
 else
 (f c d g a)
def impl_merged_at_impl_MergeText_c1 (x0 : List Str) (x1 : List Str) (x2 : List Str) : Option ((List Str) × Bool) :=
 (Vm.impl_areTexts x0 x1 x2).bind fun c =>
 bif (!c) then
 (some (([] : List Str), false))
 else
 ((Vm.impl_mergeOf x0 x1 x2).bind fun a =>
 jn (fun (f : List Str) (g : Bool) (b : List Str) (h : Int) =>
 (Vm.impl_TextOk b).bind fun d =>
 bif (!d) then
 (some (([] : List Str), false))
 else
 (some (b, true))) fun e =>
 impl_merged_at_impl_MergeText_c1_l1 a e (((a.length : Int) - 0).toNat + 1) ([] : List Str) false ([] : List Str) 0)
def impl_MergeText (x0 : List Str) (x1 : List Str) (x2 : List Str) : Option ((List Str) × Bool) :=
 (Vm.impl_merged_at_impl_MergeText_c1 x0 x1 x2).bind fun a =>
 some (a.1, a.2)
def impl_joinAt (x0 : Vm.has) (x1 : Vm.has) (x2 : Vm.has) : Option (Vm.has × Int) :=
 jn (fun (d : Bool) =>
 bif d then
 (some (x2, 0))
 else
 ((Vm.impl_has_same x2 x0).bind fun e =>
 bif e then
 (some (x1, 0))
 else
 (jn (fun (f : Bool) =>
 bif f then
 (some (x0, 1))
 else
 (bif (!x0.file) then
 (some (x0, 2))
 else
 ((Vm.impl_MergeText x0.text x1.text x2.text).bind fun a =>
 bif (!a.2) then
 (some (x0, 3))
 else
 (some (Vm.has.mk a.1 true, 0))))) fun b =>
 bif (!x1.file) then
 (b true)
 else
 (b (!x2.file))))) fun c =>
 (Vm.impl_has_same x1 x0).bind fun g =>
 bif g then
 (c true)
 else
 ((Vm.impl_has_same x1 x2).bind fun h =>
 c h)
def impl_JoinOf_l1 (x0 : List Vm.File) (x1 : List Vm.File) (x2 : List Vm.File) (d : (List Str)) (g : List Vm.File → List Vm.Clash → Int → Option ((List Vm.File) × (List Vm.Clash))) : Nat → List Vm.File → List Vm.Clash → Int → Option ((List Vm.File) × (List Vm.Clash))
 | 0, _, _, _ => none
 | m + 1, e, f, b =>
 bif decide ((b : Int) < ((d.length : Int) : Int)) then
 (jn (fun (o : List Vm.File) (p : List Vm.Clash) =>
 impl_JoinOf_l1 x0 x1 x2 d g m o p (w64 (b + 1))) fun h =>
 (gi d b).bind fun a =>
 (Vm.impl_hasAt x0 a).bind fun i =>
 (Vm.impl_hasAt x1 a).bind fun j =>
 (Vm.impl_hasAt x2 a).bind fun k =>
 (Vm.impl_joinAt (Vm.has.mk i.text i.file) (Vm.has.mk j.text j.file) (Vm.has.mk k.text k.file)).bind fun c =>
 jn (fun (l : List Vm.Clash) =>
 bif c.1.file then
 ((apM e [Vm.File.mk a c.1.text]).bind fun q =>
 h q l)
 else
 (h e l)) fun n =>
 bif ((c.2 : Int) != (0 : Int)) then
 ((apM f [Vm.Clash.mk a c.2]).bind fun r =>
 n r)
 else
 (n f))
 else
 (g e f b)
def impl_JoinOf (x0 : List Vm.File) (x1 : List Vm.File) (x2 : List Vm.File) : Option ((List Vm.File) × (List Vm.Clash)) :=
 (Vm.impl_areTrees x0 x1 x2).bind fun e =>
 bif (!e) then
 (some (([] : List File), ([] : List Clash)))
 else
 ((Vm.impl_allPaths ([x0, x1, x2] : List (List File))).bind fun a =>
 jn (fun (b : List Vm.File) (c : List Vm.Clash) (j : Int) =>
 jn (fun (f : Bool) =>
 bif f then
 ((Vm.impl_copyTree x0).bind fun g =>
 some (g, ([Vm.Clash.mk ([] : Str) 4] : List Clash)))
 else
 (some (b, c))) fun d =>
 bif (((c.length : Int) : Int) == (0 : Int)) then
 ((Vm.impl_TreeOk b).bind fun h =>
 d (!h))
 else
 (d false)) fun i =>
 impl_JoinOf_l1 x0 x1 x2 a i (((a.length : Int) - 0).toNat + 1) ([] : List File) ([] : List Clash) 0)
def impl_JoinTree (x0 : List Vm.File) (x1 : List Vm.File) (x2 : List Vm.File) : Option ((List Vm.File) × Bool) :=
 (Vm.impl_areTrees x0 x1 x2).bind fun b =>
 bif (!b) then
 (some (([] : List File), false))
 else
 ((Vm.impl_JoinOf x0 x1 x2).bind fun a =>
 bif decide ((0 : Int) < ((a.2.length : Int) : Int)) then
 (some (([] : List File), false))
 else
 (some (a.1, true)))
def slices_Insert_impl_Head_impl_Head (x0 : List Vm.Head) (x1 : Int) (x2 : Vm.Head) : Option ((List Vm.Head)) :=
 if 0 ≤ x1 ∧ x1 ≤ x0.length ∧ x0.length + 1 ≤ lim then some (x0.take x1.toNat ++ [x2] ++ x0.drop x1.toNat) else none
def impl_insertHead_l1 (x0 : List Vm.Head) (x1 : Vm.Head) (b : Int → Option ((List Vm.Head))) : Nat → Int → Option ((List Vm.Head))
 | 0, _ => none
 | m + 1, a =>
 jn (fun (e : Bool) =>
 bif e then
 (impl_insertHead_l1 x0 x1 b m (w64 (a - 1)))
 else
 (b a)) fun c =>
 bif decide ((0 : Int) < (a : Int)) then
 ((gi x0 (w64 (a - 1))).bind fun d =>
 c (!(Op.bytesLess d.Name x1.Name || d.Name == x1.Name)))
 else
 (c false)
def impl_insertHead (x0 : List Vm.Head) (x1 : Vm.Head) : Option ((List Vm.Head)) :=
 jn (fun (a : Int) =>
 (apM ([] : List Head) x0).bind fun b =>
 (Vm.slices_Insert_impl_Head_impl_Head b a x1).bind fun c =>
 some c) fun d =>
 impl_insertHead_l1 x0 x1 d (x0.length + 1) (x0.length : Int)
def impl_Repo_point_l1 (x0 : Vm.Repo) (x1 : Str) (x2 : Int) (c : Int → List Vm.Commit → List Vm.Head → List Vm.Head → Option (Vm.Repo)) : Nat → Int → List Vm.Commit → List Vm.Head → List Vm.Head → Option (Vm.Repo)
 | 0, _, _, _, _ => none
 | m + 1, a, d, e, b =>
 bif decide ((a : Int) < ((x0.Heads.length : Int) : Int)) then
 ((gi b a).bind fun f =>
 bif (f.Name == x1) then
 ((gi b a).bind fun g =>
 (siM b a (Vm.Head.mk g.Name x2)).bind fun h =>
 some (Vm.Repo.mk x0.Commits h))
 else
 (impl_Repo_point_l1 x0 x1 x2 c m (w64 (a + 1)) d e b))
 else
 (c a d e b)
def impl_Repo_point (x0 : Vm.Repo) (x1 : Str) (x2 : Int) : Option (Vm.Repo) :=
 jn (fun (d : Int) (e : List Vm.Commit) (f : List Vm.Head) (a : List Vm.Head) =>
 (Vm.impl_insertHead a (Vm.Head.mk x1 x2)).bind fun b =>
 some (Vm.Repo.mk x0.Commits b)) fun c =>
 impl_Repo_point_l1 x0 x1 x2 c (((x0.Heads.length : Int) - 0).toNat + 1) 0 ([] : List Commit) ([] : List Head) x0.Heads
def impl_Repo_commit (x0 : Vm.Repo) (x1 : Str) (x2 : Str) (x3 : List Vm.File) (x4 : List Int) : Option (Vm.Repo) :=
 (Vm.impl_copyTree x3).bind fun c =>
 (apM x0.Commits [Vm.Commit.mk x4 x2 c]).bind fun a =>
 (Vm.impl_Repo_point (Vm.Repo.mk a x0.Heads) x1 (w64 ((a.length : Int) - 1))).bind fun b =>
 some (Vm.Repo.mk b.Commits b.Heads)
def impl_Repo_tried (x0 : Vm.Repo) (x1 : Vm.Repo) : Option (Vm.Repo × Bool) :=
 (Vm.impl_RepoOk (Vm.Repo.mk x1.Commits x1.Heads)).bind fun b =>
 bif (!b) then
 ((Vm.impl_Repo_own x0).bind fun a =>
 some (Vm.Repo.mk a.Commits a.Heads, false))
 else
 (some (Vm.Repo.mk x1.Commits x1.Heads, true))
def impl_Repo_apply (x0 : Vm.Repo) (x1 : Str) (x2 : Str) (x3 : List Vm.File) (x4 : List Vm.File) : Option (Vm.Repo × Int) :=
 (Vm.impl_Repo_at x0 x1).bind fun b =>
 (Vm.impl_Repo_tree x0 b).bind fun g =>
 (Vm.impl_JoinTree x3 g x4).bind fun c =>
 bif (!c.2) then
 ((Vm.impl_Repo_own x0).bind fun d =>
 some (Vm.Repo.mk d.Commits d.Heads, 4))
 else
 ((Vm.impl_Repo_own x0).bind fun e =>
 (Vm.impl_Repo_commit (Vm.Repo.mk e.Commits e.Heads) x1 x2 c.1 ([b] : List Int)).bind fun f =>
 (Vm.impl_Repo_tried x0 (Vm.Repo.mk f.Commits f.Heads)).bind fun a =>
 bif (!a.2) then
 (some (Vm.Repo.mk a.1.Commits a.1.Heads, 5))
 else
 (some (Vm.Repo.mk a.1.Commits a.1.Heads, 0)))
def impl_Repo_pick (x0 : Vm.Repo) (x1 : Str) (x2 : Str) (x3 : Int) (x4 : Bool) : Option (Vm.Repo × Int) :=
 jn (fun (g : Bool) =>
 bif g then
 ((Vm.impl_Repo_own x0).bind fun c =>
 some (Vm.Repo.mk c.Commits c.Heads, 1))
 else
 ((Vm.impl_Repo_first x0 x3).bind fun h =>
 (Vm.impl_Repo_tree x0 h).bind fun d =>
 (Vm.impl_Repo_tree x0 x3).bind fun e =>
 jn (fun (i : List Vm.File) (j : List Vm.File) =>
 (Vm.impl_Repo_apply x0 x1 x2 i j).bind fun a =>
 some (Vm.Repo.mk a.1.Commits a.1.Heads, a.2)) fun f =>
 bif x4 then
 (f e d)
 else
 (f d e))) fun b =>
 (Vm.impl_Repo_at x0 x1).bind fun k =>
 bif decide ((k : Int) < (0 : Int)) then
 (b true)
 else
 ((Vm.impl_nameOk x2).bind fun l =>
 bif (!l) then
 (b true)
 else
 ((Vm.impl_Repo_exists x0 x3).bind fun m =>
 b (!m)))
def laws_eqIntS_l1 (x0 : List Int) (x1 : List Int) (b : Bool → Int → Option (Bool)) : Nat → Bool → Int → Option (Bool)
 | 0, _, _ => none
 | m + 1, c, a =>
 bif decide ((a : Int) < ((x0.length : Int) : Int)) then
 ((gi x0 a).bind fun d =>
 (gi x1 a).bind fun e =>
 bif ((d : Int) != (e : Int)) then
 (some false)
 else
 (laws_eqIntS_l1 x0 x1 b m c (w64 (a + 1))))
 else
 (b c a)
def laws_eqIntS (x0 : List Int) (x1 : List Int) : Option (Bool) :=
 bif (((x0.length : Int) : Int) != ((x1.length : Int) : Int)) then
 (some false)
 else
 (jn (fun (b : Bool) (c : Int) =>
 some true) fun a =>
 laws_eqIntS_l1 x0 x1 a (((x0.length : Int) - 0).toNat + 1) false 0)
def laws_eqStringS_l1 (x0 : List Str) (x1 : List Str) (b : Bool → Int → Option (Bool)) : Nat → Bool → Int → Option (Bool)
 | 0, _, _ => none
 | m + 1, c, a =>
 bif decide ((a : Int) < ((x0.length : Int) : Int)) then
 ((gi x0 a).bind fun d =>
 (gi x1 a).bind fun e =>
 bif (d != e) then
 (some false)
 else
 (laws_eqStringS_l1 x0 x1 b m c (w64 (a + 1))))
 else
 (b c a)
def laws_eqStringS (x0 : List Str) (x1 : List Str) : Option (Bool) :=
 bif (((x0.length : Int) : Int) != ((x1.length : Int) : Int)) then
 (some false)
 else
 (jn (fun (b : Bool) (c : Int) =>
 some true) fun a =>
 laws_eqStringS_l1 x0 x1 a (((x0.length : Int) - 0).toNat + 1) false 0)
def laws_eqFile (x0 : Vm.File) (x1 : Vm.File) : Option (Bool) :=
 bif (x0.Path != x1.Path) then
 (some false)
 else
 ((Vm.laws_eqStringS x0.Text x1.Text).bind fun a =>
 bif (!a) then
 (some false)
 else
 (some true))
def laws_eqFileS_l1 (x0 : List Vm.File) (x1 : List Vm.File) (b : Bool → Int → Option (Bool)) : Nat → Bool → Int → Option (Bool)
 | 0, _, _ => none
 | m + 1, c, a =>
 bif decide ((a : Int) < ((x0.length : Int) : Int)) then
 ((gi x0 a).bind fun d =>
 (gi x1 a).bind fun e =>
 (Vm.laws_eqFile d e).bind fun f =>
 bif (!f) then
 (some false)
 else
 (laws_eqFileS_l1 x0 x1 b m c (w64 (a + 1))))
 else
 (b c a)
def laws_eqFileS (x0 : List Vm.File) (x1 : List Vm.File) : Option (Bool) :=
 bif (((x0.length : Int) : Int) != ((x1.length : Int) : Int)) then
 (some false)
 else
 (jn (fun (b : Bool) (c : Int) =>
 some true) fun a =>
 laws_eqFileS_l1 x0 x1 a (((x0.length : Int) - 0).toNat + 1) false 0)
def laws_eqCommit (x0 : Vm.Commit) (x1 : Vm.Commit) : Option (Bool) :=
 (Vm.laws_eqIntS x0.Parents x1.Parents).bind fun a =>
 bif (!a) then
 (some false)
 else
 (bif (x0.Who != x1.Who) then
 (some false)
 else
 ((Vm.laws_eqFileS x0.Tree x1.Tree).bind fun b =>
 bif (!b) then
 (some false)
 else
 (some true)))
def laws_eqCommitS_l1 (x0 : List Vm.Commit) (x1 : List Vm.Commit) (b : Bool → Int → Option (Bool)) : Nat → Bool → Int → Option (Bool)
 | 0, _, _ => none
 | m + 1, c, a =>
 bif decide ((a : Int) < ((x0.length : Int) : Int)) then
 ((gi x0 a).bind fun d =>
 (gi x1 a).bind fun e =>
 (Vm.laws_eqCommit d e).bind fun f =>
 bif (!f) then
 (some false)
 else
 (laws_eqCommitS_l1 x0 x1 b m c (w64 (a + 1))))
 else
 (b c a)
def laws_eqCommitS (x0 : List Vm.Commit) (x1 : List Vm.Commit) : Option (Bool) :=
 bif (((x0.length : Int) : Int) != ((x1.length : Int) : Int)) then
 (some false)
 else
 (jn (fun (b : Bool) (c : Int) =>
 some true) fun a =>
 laws_eqCommitS_l1 x0 x1 a (((x0.length : Int) - 0).toNat + 1) false 0)
def laws_eqHead (x0 : Vm.Head) (x1 : Vm.Head) : Option (Bool) :=
 bif (x0.Name != x1.Name) then
 (some false)
 else
 (bif ((x0.At : Int) != (x1.At : Int)) then
 (some false)
 else
 (some true))
def laws_eqHeadS_l1 (x0 : List Vm.Head) (x1 : List Vm.Head) (b : Bool → Int → Option (Bool)) : Nat → Bool → Int → Option (Bool)
 | 0, _, _ => none
 | m + 1, c, a =>
 bif decide ((a : Int) < ((x0.length : Int) : Int)) then
 ((gi x0 a).bind fun d =>
 (gi x1 a).bind fun e =>
 (Vm.laws_eqHead d e).bind fun f =>
 bif (!f) then
 (some false)
 else
 (laws_eqHeadS_l1 x0 x1 b m c (w64 (a + 1))))
 else
 (b c a)
def laws_eqHeadS (x0 : List Vm.Head) (x1 : List Vm.Head) : Option (Bool) :=
 bif (((x0.length : Int) : Int) != ((x1.length : Int) : Int)) then
 (some false)
 else
 (jn (fun (b : Bool) (c : Int) =>
 some true) fun a =>
 laws_eqHeadS_l1 x0 x1 a (((x0.length : Int) - 0).toNat + 1) false 0)
def laws_eqRepo (x0 : Vm.Repo) (x1 : Vm.Repo) : Option (Bool) :=
 (Vm.laws_eqCommitS x0.Commits x1.Commits).bind fun a =>
 bif (!a) then
 (some false)
 else
 ((Vm.laws_eqHeadS x0.Heads x1.Heads).bind fun b =>
 bif (!b) then
 (some false)
 else
 (some true))
def laws_markIntS_l1  (d : Int → Int → List Int → Option (Int × (List Int))) : Nat → Int → Int → List Int → Option (Int × (List Int))
 | 0, _, _, _ => none
 | m + 1, c, a, b =>
 bif decide ((a : Int) < ((b.length : Int) : Int)) then
 ((gi b a).bind fun f =>
 (siM b a c).bind fun e =>
 laws_markIntS_l1 d m (w64 (c + 1)) (w64 (a + 1)) e)
 else
 (d c a b)
def laws_markIntS (x0 : List Int) (x1 : Int) : Option (Int × (List Int)) :=
 jn (fun (a : Int) (d : Int) (b : List Int) =>
 some (a, b)) fun c =>
 laws_markIntS_l1 c (((x0.length : Int) - 0).toNat + 1) x1 0 x0
def laws_markText_l1  (b : Int → Str → Option (Str)) : Nat → Int → Str → Option (Str)
 | 0, _, _ => none
 | m + 1, a, c =>
 bif decide ((0 : Int) < (a : Int)) then
 ((saM (([(by8 (w64 (48 + (Int.tmod a 10))))] : List Byte) : Str) c).bind fun d =>
 laws_markText_l1 b m (w64 (Int.tdiv a 10)) d)
 else
 (b a c)
def laws_markText (x0 : Int) : Option (Str) :=
 bif decide ((x0 : Int) ≤ (0 : Int)) then
 (some ([109, 48] : Str))
 else
 (jn (fun (d : Int) (a : Str) =>
 (saM ([109] : Str) a).bind fun b =>
 some b) fun c =>
 laws_markText_l1 c ((x0 - 0).toNat + 1) x0 ([] : Str))
def laws_markStringS_l1  (d : Int → Int → List Str → Option (Int × (List Str))) : Nat → Int → Int → List Str → Option (Int × (List Str))
 | 0, _, _, _ => none
 | m + 1, c, a, b =>
 bif decide ((a : Int) < ((b.length : Int) : Int)) then
 ((Vm.laws_markText c).bind fun e =>
 (gi b a).bind fun g =>
 (siM b a e).bind fun f =>
 laws_markStringS_l1 d m (w64 (c + 1)) (w64 (a + 1)) f)
 else
 (d c a b)
def laws_markStringS (x0 : List Str) (x1 : Int) : Option (Int × (List Str)) :=
 jn (fun (a : Int) (d : Int) (b : List Str) =>
 some (a, b)) fun c =>
 laws_markStringS_l1 c (((x0.length : Int) - 0).toNat + 1) x1 0 x0
def laws_markFileS_l1  (d : Int → Int → List Vm.File → Option (Int × (List Vm.File))) : Nat → Int → Int → List Vm.File → Option (Int × (List Vm.File))
 | 0, _, _, _ => none
 | m + 1, c, a, b =>
 bif decide ((a : Int) < ((b.length : Int) : Int)) then
 ((Vm.laws_markText c).bind fun h =>
 (gi b a).bind fun i =>
 (siM b a (Vm.File.mk h i.Text)).bind fun e =>
 (gi e a).bind fun f =>
 (Vm.laws_markStringS f.Text (w64 (c + 1))).bind fun g =>
 (siM e a (Vm.File.mk f.Path g.2)).bind fun j =>
 laws_markFileS_l1 d m g.1 (w64 (a + 1)) j)
 else
 (d c a b)
def laws_markFileS (x0 : List Vm.File) (x1 : Int) : Option (Int × (List Vm.File)) :=
 jn (fun (a : Int) (d : Int) (b : List Vm.File) =>
 some (a, b)) fun c =>
 laws_markFileS_l1 c (((x0.length : Int) - 0).toNat + 1) x1 0 x0
def laws_markCommitS_l1  (f : Int → Int → List Vm.Commit → Option (Int × (List Vm.Commit))) : Nat → Int → Int → List Vm.Commit → Option (Int × (List Vm.Commit))
 | 0, _, _, _ => none
 | m + 1, g, a, b =>
 bif decide ((a : Int) < ((b.length : Int) : Int)) then
 ((gi b a).bind fun c =>
 (Vm.laws_markIntS c.Parents g).bind fun d =>
 (siM b a (Vm.Commit.mk d.2 c.Who c.Tree)).bind fun h =>
 (Vm.laws_markText d.1).bind fun l =>
 (gi h a).bind fun i =>
 (siM h a (Vm.Commit.mk i.Parents l i.Tree)).bind fun j =>
 (gi j a).bind fun e =>
 (Vm.laws_markFileS e.Tree (w64 (d.1 + 1))).bind fun k =>
 (siM j a (Vm.Commit.mk e.Parents e.Who k.2)).bind fun n =>
 laws_markCommitS_l1 f m k.1 (w64 (a + 1)) n)
 else
 (f g a b)
def laws_markCommitS (x0 : List Vm.Commit) (x1 : Int) : Option (Int × (List Vm.Commit)) :=
 jn (fun (a : Int) (d : Int) (b : List Vm.Commit) =>
 some (a, b)) fun c =>
 laws_markCommitS_l1 c (((x0.length : Int) - 0).toNat + 1) x1 0 x0
def laws_markHeadS_l1  (d : Int → Int → List Vm.Head → Option (Int × (List Vm.Head))) : Nat → Int → Int → List Vm.Head → Option (Int × (List Vm.Head))
 | 0, _, _, _ => none
 | m + 1, b, a, c =>
 bif decide ((a : Int) < ((c.length : Int) : Int)) then
 ((Vm.laws_markText b).bind fun f =>
 (gi c a).bind fun g =>
 (siM c a (Vm.Head.mk f g.At)).bind fun e =>
 (gi e a).bind fun h =>
 (siM e a (Vm.Head.mk h.Name (w64 (b + 1)))).bind fun i =>
 laws_markHeadS_l1 d m (w64 ((w64 (b + 1)) + 1)) (w64 (a + 1)) i)
 else
 (d b a c)
def laws_markHeadS (x0 : List Vm.Head) (x1 : Int) : Option (Int × (List Vm.Head)) :=
 jn (fun (a : Int) (d : Int) (b : List Vm.Head) =>
 some (a, b)) fun c =>
 laws_markHeadS_l1 c (((x0.length : Int) - 0).toNat + 1) x1 0 x0
def laws_markRepo (x0 : Vm.Repo) (x1 : Int) : Option (Int × Vm.Repo) :=
 (Vm.laws_markCommitS x0.Commits x1).bind fun a =>
 (Vm.laws_markHeadS x0.Heads a.1).bind fun b =>
 some (b.1, Vm.Repo.mk a.2 b.2)
def laws_heldIntS_l1 (x0 : List Int) (c : Int → Int → Int → Option (Int)) : Nat → Int → Int → Int → Option (Int)
 | 0, _, _, _ => none
 | m + 1, b, d, a =>
 bif decide ((a : Int) < ((x0.length : Int) : Int)) then
 ((gi x0 a).bind fun e =>
 bif ((e : Int) != (b : Int)) then
 (some (-1))
 else
 (laws_heldIntS_l1 x0 c m (w64 (b + 1)) d (w64 (a + 1))))
 else
 (c b d a)
def laws_heldIntS (x0 : List Int) (x1 : Int) : Option (Int) :=
 jn (fun (a : Int) (c : Int) (d : Int) =>
 some a) fun b =>
 laws_heldIntS_l1 x0 b (((x0.length : Int) - 0).toNat + 1) x1 0 0
def laws_heldStringS_l1 (x0 : List Str) (c : Int → Int → Int → Option (Int)) : Nat → Int → Int → Int → Option (Int)
 | 0, _, _, _ => none
 | m + 1, b, d, a =>
 bif decide ((a : Int) < ((x0.length : Int) : Int)) then
 ((gi x0 a).bind fun e =>
 (Vm.laws_markText b).bind fun f =>
 bif (e != f) then
 (some (-1))
 else
 (laws_heldStringS_l1 x0 c m (w64 (b + 1)) d (w64 (a + 1))))
 else
 (c b d a)
def laws_heldStringS (x0 : List Str) (x1 : Int) : Option (Int) :=
 jn (fun (a : Int) (c : Int) (d : Int) =>
 some a) fun b =>
 laws_heldStringS_l1 x0 b (((x0.length : Int) - 0).toNat + 1) x1 0 0
def laws_heldFileS_l1 (x0 : List Vm.File) (c : Int → Int → Int → Option (Int)) : Nat → Int → Int → Int → Option (Int)
 | 0, _, _, _ => none
 | m + 1, b, d, a =>
 bif decide ((a : Int) < ((x0.length : Int) : Int)) then
 ((gi x0 a).bind fun f =>
 (Vm.laws_markText b).bind fun g =>
 bif (f.Path != g) then
 (some (-1))
 else
 ((gi x0 a).bind fun h =>
 (Vm.laws_heldStringS h.Text (w64 (b + 1))).bind fun e =>
 bif decide ((e : Int) < (0 : Int)) then
 (some (-1))
 else
 (laws_heldFileS_l1 x0 c m e d (w64 (a + 1)))))
 else
 (c b d a)
def laws_heldFileS (x0 : List Vm.File) (x1 : Int) : Option (Int) :=
 jn (fun (a : Int) (c : Int) (d : Int) =>
 some a) fun b =>
 laws_heldFileS_l1 x0 b (((x0.length : Int) - 0).toNat + 1) x1 0 0
def laws_heldCommitS_l1 (x0 : List Vm.Commit) (c : Int → Int → Int → Option (Int)) : Nat → Int → Int → Int → Option (Int)
 | 0, _, _, _ => none
 | m + 1, d, e, a =>
 bif decide ((a : Int) < ((x0.length : Int) : Int)) then
 ((gi x0 a).bind fun g =>
 (Vm.laws_heldIntS g.Parents d).bind fun b =>
 bif decide ((b : Int) < (0 : Int)) then
 (some (-1))
 else
 ((gi x0 a).bind fun h =>
 (Vm.laws_markText b).bind fun i =>
 bif (h.Who != i) then
 (some (-1))
 else
 ((gi x0 a).bind fun j =>
 (Vm.laws_heldFileS j.Tree (w64 (b + 1))).bind fun f =>
 bif decide ((f : Int) < (0 : Int)) then
 (some (-1))
 else
 (laws_heldCommitS_l1 x0 c m f e (w64 (a + 1))))))
 else
 (c d e a)
def laws_heldCommitS (x0 : List Vm.Commit) (x1 : Int) : Option (Int) :=
 jn (fun (a : Int) (c : Int) (d : Int) =>
 some a) fun b =>
 laws_heldCommitS_l1 x0 b (((x0.length : Int) - 0).toNat + 1) x1 0 0
def laws_heldHeadS_l1 (x0 : List Vm.Head) (c : Int → Int → Int → Option (Int)) : Nat → Int → Int → Int → Option (Int)
 | 0, _, _, _ => none
 | m + 1, b, d, a =>
 bif decide ((a : Int) < ((x0.length : Int) : Int)) then
 ((gi x0 a).bind fun e =>
 (Vm.laws_markText b).bind fun f =>
 bif (e.Name != f) then
 (some (-1))
 else
 ((gi x0 a).bind fun g =>
 bif ((g.At : Int) != (w64 (b + 1) : Int)) then
 (some (-1))
 else
 (laws_heldHeadS_l1 x0 c m (w64 ((w64 (b + 1)) + 1)) d (w64 (a + 1)))))
 else
 (c b d a)
def laws_heldHeadS (x0 : List Vm.Head) (x1 : Int) : Option (Int) :=
 jn (fun (a : Int) (c : Int) (d : Int) =>
 some a) fun b =>
 laws_heldHeadS_l1 x0 b (((x0.length : Int) - 0).toNat + 1) x1 0 0
def laws_heldRepo (x0 : Vm.Repo) (x1 : Int) : Option (Int) :=
 (Vm.laws_heldCommitS x0.Commits x1).bind fun a =>
 bif decide ((a : Int) < (0 : Int)) then
 (some (-1))
 else
 ((Vm.laws_heldHeadS x0.Heads a).bind fun b =>
 bif decide ((b : Int) < (0 : Int)) then
 (some (-1))
 else
 (some b))
end Go.Vm
