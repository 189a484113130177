/- Models of the functions: plain Lean, printed by a program of ours. Conditions: none. -/
import Derived.Test.YtokbhelngoeblaaGreatDoorGLw
import Derived.Lib.SplitLaws
import Derived.Lib.IndexMore
import Derived.Lib.Join
import Derived.Lib.ItoaNum
namespace Go.Vm
open Go Go.Sx
set_option linter.unusedVariables false
set_option linter.unusedSimpArgs false
def ziQ (x0 : List Int) (x1 : Int) : Option (Int) :=
 bif decide ((w64 (x1 - (x0.length : Int)) : Int) < (0 : Int)) then
 (some (-1))
 else
 (some (w64 (x1 - (x0.length : Int))))
def zce (x0 : List Str) (c : Int → Int → Int → Option (Int)) : Nat → Int → Int → Int → Option (Int)
 | 0, _, _, _ => none
 | m + 1, b, d, a =>
 bif decide ((a : Int) < ((x0.length : Int) : Int)) then
 ((gi x0 a).bind fun e =>
 bif decide ((w64 (b - (e.length : Int)) : Int) < (0 : Int)) then
 (some (-1))
 else
 (zce x0 c m (w64 (b - (e.length : Int))) d (w64 (a + 1))))
 else
 (c b d a)
def zed (x0 : List Str) (x1 : Int) : Option (Int) :=
 bif decide ((w64 (x1 - (x0.length : Int)) : Int) < (0 : Int)) then
 (some (-1))
 else
 (jn (fun (a : Int) (c : Int) (d : Int) =>
 some a) fun b =>
 zce x0 b (((x0.length : Int) - 0).toNat + 1) (w64 (x1 - (x0.length : Int))) 0 0)
def ziR (x0 : Vm.File) (x1 : Int) : Option (Int) :=
 bif decide ((w64 (x1 - (x0.Path.length : Int)) : Int) < (0 : Int)) then
 (some (-1))
 else
 ((Vm.zed x0.Text (w64 (x1 - (x0.Path.length : Int)))).bind fun a =>
 bif decide ((a : Int) < (0 : Int)) then
 (some (-1))
 else
 (some a))
def zfc (x0 : List Vm.File) (b : Int → Int → Int → Option (Int)) : Nat → Int → Int → Int → Option (Int)
 | 0, _, _, _ => none
 | m + 1, c, d, a =>
 bif decide ((a : Int) < ((x0.length : Int) : Int)) then
 ((gi x0 a).bind fun f =>
 (Vm.ziR f c).bind fun e =>
 bif decide ((e : Int) < (0 : Int)) then
 (some (-1))
 else
 (zfc x0 b m e d (w64 (a + 1))))
 else
 (b c d a)
def zhZ (x0 : List Vm.File) (x1 : Int) : Option (Int) :=
 bif decide ((w64 (x1 - (x0.length : Int)) : Int) < (0 : Int)) then
 (some (-1))
 else
 (jn (fun (a : Int) (c : Int) (d : Int) =>
 some a) fun b =>
 zfc x0 b (((x0.length : Int) - 0).toNat + 1) (w64 (x1 - (x0.length : Int))) 0 0)
def zhm (x0 : Vm.Commit) (x1 : Int) : Option (Int) :=
 (Vm.ziQ x0.Parents x1).bind fun a =>
 bif decide ((a : Int) < (0 : Int)) then
 (some (-1))
 else
 (bif decide ((w64 (a - (x0.Who.length : Int)) : Int) < (0 : Int)) then
 (some (-1))
 else
 ((Vm.zhZ x0.Tree (w64 (a - (x0.Who.length : Int)))).bind fun b =>
 bif decide ((b : Int) < (0 : Int)) then
 (some (-1))
 else
 (some b)))
def zd1 (x0 : List Vm.Commit) (b : Int → Int → Int → Option (Int)) : Nat → Int → Int → Int → Option (Int)
 | 0, _, _, _ => none
 | m + 1, c, d, a =>
 bif decide ((a : Int) < ((x0.length : Int) : Int)) then
 ((gi x0 a).bind fun f =>
 (Vm.zhm f c).bind fun e =>
 bif decide ((e : Int) < (0 : Int)) then
 (some (-1))
 else
 (zd1 x0 b m e d (w64 (a + 1))))
 else
 (b c d a)
def zgs (x0 : List Vm.Commit) (x1 : Int) : Option (Int) :=
 bif decide ((w64 (x1 - (x0.length : Int)) : Int) < (0 : Int)) then
 (some (-1))
 else
 (jn (fun (a : Int) (c : Int) (d : Int) =>
 some a) fun b =>
 zd1 x0 b (((x0.length : Int) - 0).toNat + 1) (w64 (x1 - (x0.length : Int))) 0 0)
def ziS (x0 : Vm.Head) (x1 : Int) : Option (Int) :=
 bif decide ((w64 (x1 - (x0.Name.length : Int)) : Int) < (0 : Int)) then
 (some (-1))
 else
 (some (w64 (x1 - (x0.Name.length : Int))))
def zfd (x0 : List Vm.Head) (b : Int → Int → Int → Option (Int)) : Nat → Int → Int → Int → Option (Int)
 | 0, _, _, _ => none
 | m + 1, c, d, a =>
 bif decide ((a : Int) < ((x0.length : Int) : Int)) then
 ((gi x0 a).bind fun f =>
 (Vm.ziS f c).bind fun e =>
 bif decide ((e : Int) < (0 : Int)) then
 (some (-1))
 else
 (zfd x0 b m e d (w64 (a + 1))))
 else
 (b c d a)
def zh0 (x0 : List Vm.Head) (x1 : Int) : Option (Int) :=
 bif decide ((w64 (x1 - (x0.length : Int)) : Int) < (0 : Int)) then
 (some (-1))
 else
 (jn (fun (a : Int) (c : Int) (d : Int) =>
 some a) fun b =>
 zfd x0 b (((x0.length : Int) - 0).toNat + 1) (w64 (x1 - (x0.length : Int))) 0 0)
def zhS (x0 : Vm.Repo) (x1 : Int) : Option (Int) :=
 (Vm.zgs x0.Commits x1).bind fun a =>
 bif decide ((a : Int) < (0 : Int)) then
 (some (-1))
 else
 ((Vm.zh0 x0.Heads a).bind fun b =>
 bif decide ((b : Int) < (0 : Int)) then
 (some (-1))
 else
 (some b))
def zfE (x0 : List Int) (c : Int → List Int → Option ((List Int))) : Nat → Int → List Int → Option ((List Int))
 | 0, _, _ => none
 | m + 1, a, b =>
 bif decide ((a : Int) < ((x0.length : Int) : Int)) then
 ((gi x0 a).bind fun d =>
 (gi b a).bind fun f =>
 (siM b a d).bind fun e =>
 zfE x0 c m (w64 (a + 1)) e)
 else
 (c a b)
def ziT (x0 : List Int) : Option ((List Int)) :=
 (mkM (x0.length : Int) (0 : Int)).bind fun a =>
 jn (fun (d : Int) (b : List Int) =>
 some b) fun c =>
 zfE x0 c (((x0.length : Int) - 0).toNat + 1) 0 a
def zcf (x0 : List Str) (c : Int → List Str → Option ((List Str))) : Nat → Int → List Str → Option ((List Str))
 | 0, _, _ => none
 | m + 1, a, b =>
 bif decide ((a : Int) < ((x0.length : Int) : Int)) then
 ((gi x0 a).bind fun d =>
 (gi b a).bind fun f =>
 (siM b a d).bind fun e =>
 zcf x0 c m (w64 (a + 1)) e)
 else
 (c a b)
def zee (x0 : List Str) : Option ((List Str)) :=
 (mkM (x0.length : Int) (([] : Str) : Str)).bind fun a =>
 jn (fun (d : Int) (b : List Str) =>
 some b) fun c =>
 zcf x0 c (((x0.length : Int) - 0).toNat + 1) 0 a
def ziU (x0 : Vm.File) : Option (Vm.File) :=
 (Vm.zee x0.Text).bind fun a =>
 some (Vm.File.mk x0.Path a)
def zfe (x0 : List Vm.File) (c : Int → List Vm.File → Option ((List Vm.File))) : Nat → Int → List Vm.File → Option ((List Vm.File))
 | 0, _, _ => none
 | m + 1, a, b =>
 bif decide ((a : Int) < ((x0.length : Int) : Int)) then
 ((gi x0 a).bind fun e =>
 (Vm.ziU e).bind fun d =>
 (gi b a).bind fun g =>
 (siM b a (Vm.File.mk d.Path d.Text)).bind fun f =>
 zfe x0 c m (w64 (a + 1)) f)
 else
 (c a b)
def zh1 (x0 : List Vm.File) : Option ((List Vm.File)) :=
 (mkM (x0.length : Int) (Vm.File.mk ([] : Str) ([] : List Str) : File)).bind fun a =>
 jn (fun (d : Int) (b : List Vm.File) =>
 some b) fun c =>
 zfe x0 c (((x0.length : Int) - 0).toNat + 1) 0 a
def zhn (x0 : Vm.Commit) : Option (Vm.Commit) :=
 (Vm.ziT x0.Parents).bind fun a =>
 (Vm.zh1 x0.Tree).bind fun b =>
 some (Vm.Commit.mk a x0.Who b)
def zd2 (x0 : List Vm.Commit) (d : Int → List Vm.Commit → Option ((List Vm.Commit))) : Nat → Int → List Vm.Commit → Option ((List Vm.Commit))
 | 0, _, _ => none
 | m + 1, a, b =>
 bif decide ((a : Int) < ((x0.length : Int) : Int)) then
 ((gi x0 a).bind fun e =>
 (Vm.zhn e).bind fun c =>
 (gi b a).bind fun g =>
 (siM b a (Vm.Commit.mk c.Parents c.Who c.Tree)).bind fun f =>
 zd2 x0 d m (w64 (a + 1)) f)
 else
 (d a b)
def zgt (x0 : List Vm.Commit) : Option ((List Vm.Commit)) :=
 (mkM (x0.length : Int) (Vm.Commit.mk ([] : List Int) ([] : Str) ([] : List File) : Commit)).bind fun a =>
 jn (fun (d : Int) (b : List Vm.Commit) =>
 some b) fun c =>
 zd2 x0 c (((x0.length : Int) - 0).toNat + 1) 0 a
def ziV (x0 : Vm.Head) : Option (Vm.Head) :=
 some (Vm.Head.mk x0.Name x0.At)
def zff (x0 : List Vm.Head) (c : Int → List Vm.Head → Option ((List Vm.Head))) : Nat → Int → List Vm.Head → Option ((List Vm.Head))
 | 0, _, _ => none
 | m + 1, a, b =>
 bif decide ((a : Int) < ((x0.length : Int) : Int)) then
 ((gi x0 a).bind fun d =>
 (Vm.ziV d).bind fun e =>
 (gi b a).bind fun g =>
 (siM b a e).bind fun f =>
 zff x0 c m (w64 (a + 1)) f)
 else
 (c a b)
def zh2 (x0 : List Vm.Head) : Option ((List Vm.Head)) :=
 (mkM (x0.length : Int) (Vm.Head.mk ([] : Str) 0 : Head)).bind fun a =>
 jn (fun (d : Int) (b : List Vm.Head) =>
 some b) fun c =>
 zff x0 c (((x0.length : Int) - 0).toNat + 1) 0 a
def zd3 (x0 : Vm.Repo) : Option (Vm.Repo) :=
 (Vm.zgt x0.Commits).bind fun a =>
 (Vm.zh2 x0.Heads).bind fun b =>
 some (Vm.Repo.mk a b)
def zeP (x0 : Int) (x1 : Int) (x2 : Int) : Option (Bool) :=
 jn (fun (b : Bool) =>
 some b) fun a =>
 bif decide ((x1 : Int) ≤ (x0 : Int)) then
 (a (decide ((x0 : Int) ≤ (x2 : Int))))
 else
 (a false)
def zcg (x0 : Str) (c : Bool → Int → Option (Bool)) : Nat → Bool → Int → Option (Bool)
 | 0, _, _ => none
 | m + 1, d, a =>
 bif decide ((a : Int) < ((x0.length : Int) : Int)) then
 (jn (fun (e : Bool) =>
 bif e then
 (some false)
 else
 (zcg x0 c m d (w64 (a + 1)))) fun b =>
 (chM x0 a).bind fun f =>
 bif decide (((UInt8.toNat f : Int) : Int) < (97 : Int)) then
 ((chM x0 a).bind fun g =>
 bif decide (((UInt8.toNat g : Int) : Int) < (48 : Int)) then
 (b true)
 else
 ((chM x0 a).bind fun h =>
 b (decide ((57 : Int) < ((UInt8.toNat h : Int) : Int)))))
 else
 ((chM x0 a).bind fun i =>
 bif decide ((122 : Int) < ((UInt8.toNat i : Int) : Int)) then
 ((chM x0 a).bind fun j =>
 bif decide (((UInt8.toNat j : Int) : Int) < (48 : Int)) then
 (b true)
 else
 ((chM x0 a).bind fun k =>
 b (decide ((57 : Int) < ((UInt8.toNat k : Int) : Int)))))
 else
 (b false)))
 else
 (c d a)
def zcH (x0 : Str) : Option (Bool) :=
 jn (fun (c : Bool) (d : Int) =>
 (Vm.zeP (x0.length : Int) 1 6).bind fun a =>
 some a) fun b =>
 zcg x0 b (((x0.length : Int) - 0).toNat + 1) false 0
def zef (x0 : Str) (x1 : zlK) (x2 : Int) (d : List Str → Int → Int → Option ((List Str))) : Nat → List Str → Int → Int → Option ((List Str))
 | 0, _, _, _ => none
 | m + 1, b, c, a =>
 jn (fun (g : Bool) =>
 bif g then
 (jn (fun (h : List Str) (i : Int) =>
 zef x0 x1 x2 d m h i (w64 (a + 1))) fun e =>
 (chM x0 a).bind fun j =>
 bif (((UInt8.toNat j : Int) : Int) == ((UInt8.toNat x1 : Int) : Int)) then
 ((slM x0 c a).bind fun k =>
 (apM b [k]).bind fun l =>
 e l (w64 (a + 1)))
 else
 (e b c))
 else
 (d b c a)) fun f =>
 bif decide ((a : Int) < ((x0.length : Int) : Int)) then
 (f (decide (((b.length : Int) : Int) < (x2 : Int))))
 else
 (f false)
def zgu (x0 : Str) (x1 : zlK) (x2 : Int) : Option ((List Str)) :=
 jn (fun (a : List Str) (b : Int) (f : Int) =>
 (slM x0 b (x0.length : Int)).bind fun c =>
 (apM a [c]).bind fun d =>
 some d) fun e =>
 zef x0 x1 x2 e (x0.length + 1) ([] : List Str) 0 0
def zch (b : (List Str)) (c : Bool → Int → Option (Bool)) : Nat → Bool → Int → Option (Bool)
 | 0, _, _ => none
 | m + 1, d, a =>
 bif decide ((a : Int) < ((b.length : Int) : Int)) then
 ((gi b a).bind fun e =>
 (Vm.zcH e).bind fun f =>
 bif (!f) then
 (some false)
 else
 (zch b c m d (w64 (a + 1))))
 else
 (c d a)
def zdh (x0 : Str) : Option (Bool) :=
 (Vm.zgu x0 (UInt8.ofNatLT 47 (by decide) : zlK) 3).bind fun a =>
 jn (fun (c : Bool) (d : Int) =>
 some (decide (((a.length : Int) : Int) ≤ (3 : Int)))) fun b =>
 zch a b (((a.length : Int) - 0).toNat + 1) false 0
def zci (x0 : Str) (b : Bool → Int → Option (Bool)) : Nat → Bool → Int → Option (Bool)
 | 0, _, _ => none
 | m + 1, c, a =>
 bif decide ((a : Int) < ((x0.length : Int) : Int)) then
 (jn (fun (e : Bool) =>
 bif e then
 (some false)
 else
 (zci x0 b m c (w64 (a + 1)))) fun d =>
 (chM x0 a).bind fun f =>
 bif decide (((UInt8.toNat f : Int) : Int) < (32 : Int)) then
 (d true)
 else
 ((chM x0 a).bind fun g =>
 d (decide ((126 : Int) < ((UInt8.toNat g : Int) : Int)))))
 else
 (b c a)
def zfF (x0 : Str) : Option (Bool) :=
 jn (fun (b : Bool) (c : Int) =>
 some (decide (((x0.length : Int) : Int) ≤ (12 : Int)))) fun a =>
 zci x0 a (((x0.length : Int) - 0).toNat + 1) false 0
def zdp (x0 : List Str) (b : Bool → Int → Option (Bool)) : Nat → Bool → Int → Option (Bool)
 | 0, _, _ => none
 | m + 1, c, a =>
 bif decide ((a : Int) < ((x0.length : Int) : Int)) then
 ((gi x0 a).bind fun d =>
 (Vm.zfF d).bind fun e =>
 bif (!e) then
 (some false)
 else
 (zdp x0 b m c (w64 (a + 1))))
 else
 (b c a)
def zdq (x0 : List Str) : Option (Bool) :=
 jn (fun (b : Bool) (c : Int) =>
 some (decide (((x0.length : Int) : Int) ≤ (10 : Int)))) fun a =>
 zdp x0 a (((x0.length : Int) - 0).toNat + 1) false 0
def zg4 (x0 : Str) (x1 : Str) : Option (Bool) :=
 jn (fun (b : Bool) =>
 some b) fun a =>
 bif decide (((x0.length : Int) : Int) < ((x1.length : Int) : Int)) then
 ((slM x1 0 (x0.length : Int)).bind fun c =>
 bif (c == x0) then
 ((chM x1 (x0.length : Int)).bind fun d =>
 a (((UInt8.toNat d : Int) : Int) == (47 : Int)))
 else
 (a false))
 else
 (a false)
def zcw (x0 : List Vm.File) (b : Int) (c : Bool → Int → Option (Bool)) : Nat → Bool → Int → Option (Bool)
 | 0, _, _ => none
 | m + 1, d, a =>
 bif decide ((a : Int) < ((x0.length : Int) : Int)) then
 ((gi x0 b).bind fun e =>
 (gi x0 a).bind fun f =>
 (Vm.zg4 e.Path f.Path).bind fun g =>
 bif g then
 (some false)
 else
 (zcw x0 b c m d (w64 (a + 1))))
 else
 (c d a)
def zdr (x0 : List Vm.File) (c : Bool → Int → Option (Bool)) : Nat → Bool → Int → Option (Bool)
 | 0, _, _ => none
 | m + 1, d, a =>
 bif decide ((a : Int) < ((x0.length : Int) : Int)) then
 (jn (fun (g : Bool) =>
 bif g then
 (some false)
 else
 (jn (fun (h : Bool) (o : Int) =>
 zdr x0 c m h (w64 (a + 1))) fun i =>
 zcw x0 a i (((x0.length : Int) - 0).toNat + 1) d 0)) fun b =>
 (gi x0 a).bind fun j =>
 (Vm.zdh j.Path).bind fun k =>
 bif (!k) then
 (b true)
 else
 ((gi x0 a).bind fun l =>
 (Vm.zdq l.Text).bind fun n =>
 bif (!n) then
 (b true)
 else
 (bif decide ((0 : Int) < (a : Int)) then
 ((gi x0 a).bind fun e =>
 (gi x0 (w64 (a - 1))).bind fun f =>
 b (Op.bytesLess e.Path f.Path || e.Path == f.Path))
 else
 (b false))))
 else
 (c d a)
def zg5 (x0 : List Vm.File) : Option (Bool) :=
 jn (fun (b : Bool) (c : Int) =>
 some (decide (((x0.length : Int) : Int) ≤ (8 : Int)))) fun a =>
 zdr x0 a (((x0.length : Int) - 0).toNat + 1) false 0
def zcx (d : Int) (b : Vm.Commit) (e : Bool → Int → Option (Bool)) : Nat → Bool → Int → Option (Bool)
 | 0, _, _ => none
 | m + 1, f, a =>
 bif decide ((a : Int) < ((b.Parents.length : Int) : Int)) then
 (jn (fun (g : Bool) =>
 bif g then
 (some false)
 else
 (zcx d b e m f (w64 (a + 1)))) fun c =>
 (gi b.Parents a).bind fun h =>
 (Vm.zeP h 0 (w64 (d - 1))).bind fun i =>
 bif (!i) then
 (c true)
 else
 (bif decide ((0 : Int) < (a : Int)) then
 ((gi b.Parents a).bind fun j =>
 (gi b.Parents 0).bind fun k =>
 c ((j : Int) == (k : Int)))
 else
 (c false)))
 else
 (e f a)
def zcy (x0 : Vm.Repo) (c : Bool → Int → Option (Bool)) : Nat → Bool → Int → Option (Bool)
 | 0, _, _ => none
 | m + 1, d, a =>
 bif decide ((a : Int) < ((x0.Heads.length : Int) : Int)) then
 (jn (fun (g : Bool) =>
 bif g then
 (some false)
 else
 (zcy x0 c m d (w64 (a + 1)))) fun b =>
 (gi x0.Heads a).bind fun h =>
 (Vm.zcH h.Name).bind fun i =>
 bif (!i) then
 (b true)
 else
 ((gi x0.Heads a).bind fun j =>
 (Vm.zeP j.At 0 (w64 ((x0.Commits.length : Int) - 1))).bind fun k =>
 bif (!k) then
 (b true)
 else
 (bif decide ((0 : Int) < (a : Int)) then
 ((gi x0.Heads a).bind fun e =>
 (gi x0.Heads (w64 (a - 1))).bind fun f =>
 b (Op.bytesLess e.Name f.Name || e.Name == f.Name))
 else
 (b false))))
 else
 (c d a)
def zds (x0 : Vm.Repo) (d : Bool → Int → Option (Bool)) : Nat → Bool → Int → Option (Bool)
 | 0, _, _ => none
 | m + 1, e, a =>
 bif decide ((a : Int) < ((x0.Commits.length : Int) : Int)) then
 ((gi x0.Commits a).bind fun b =>
 jn (fun (f : Bool) (k : Int) =>
 jn (fun (g : Bool) =>
 bif g then
 (some false)
 else
 (zds x0 d m f (w64 (a + 1)))) fun c =>
 bif decide ((2 : Int) < ((b.Parents.length : Int) : Int)) then
 (c true)
 else
 ((Vm.zcH b.Who).bind fun h =>
 bif (!h) then
 (c true)
 else
 ((Vm.zg5 b.Tree).bind fun i =>
 c (!i)))) fun j =>
 zcx a b j (((b.Parents.length : Int) - 0).toNat + 1) e 0)
 else
 (d e a)
def zfg (x0 : Vm.Repo) : Option (Bool) :=
 jn (fun (b : Bool) (f : Int) =>
 jn (fun (g : Bool) (h : Int) =>
 jn (fun (c : Bool) =>
 some c) fun a =>
 bif decide (((x0.Commits.length : Int) : Int) ≤ (16 : Int)) then
 (a (decide (((x0.Heads.length : Int) : Int) ≤ (5 : Int))))
 else
 (a false)) fun d =>
 zcy x0 d (((x0.Heads.length : Int) - 0).toNat + 1) b 0) fun e =>
 zds x0 e (((x0.Commits.length : Int) - 0).toNat + 1) false 0
def zdt (x0 : Vm.Repo) (x1 : Str) (b : Int → Int → Option (Int)) : Nat → Int → Int → Option (Int)
 | 0, _, _ => none
 | m + 1, c, a =>
 bif decide ((a : Int) < ((x0.Heads.length : Int) : Int)) then
 ((gi x0.Heads a).bind fun d =>
 bif (d.Name == x1) then
 ((gi x0.Heads a).bind fun e =>
 some e.At)
 else
 (zdt x0 x1 b m c (w64 (a + 1))))
 else
 (b c a)
def zeQ (x0 : Vm.Repo) (x1 : Str) : Option (Int) :=
 jn (fun (b : Int) (c : Int) =>
 some (-1)) fun a =>
 zdt x0 x1 a (((x0.Heads.length : Int) - 0).toNat + 1) 0 0
def zcU (x0 : Vm.Repo) (a : Int) (d : Int → List Bool → Option ((List Int))) : Nat → Int → List Bool → Option ((List Int))
 | 0, _, _ => none
 | m + 1, b, c =>
 jn (fun (g : Bool) =>
 bif g then
 ((gi x0.Commits a).bind fun h =>
 (gi h.Parents b).bind fun e =>
 (gi c e).bind fun l =>
 (siM c e true).bind fun i =>
 zcU x0 a d m (w64 (b + 1)) i)
 else
 (d b c)) fun f =>
 (gi x0.Commits a).bind fun j =>
 bif decide ((b : Int) < ((j.Parents.length : Int) : Int)) then
 ((gi c a).bind fun k =>
 f k)
 else
 (f false)
def zbK (b : List Bool) (d : List Int → Int → Option ((List Int))) : Nat → List Int → Int → Option ((List Int))
 | 0, _, _ => none
 | m + 1, c, a =>
 bif decide ((a : Int) < ((b.length : Int) : Int)) then
 (jn (fun (f : List Int) =>
 zbK b d m f (w64 (a + 1))) fun e =>
 (gi b a).bind fun g =>
 bif g then
 ((apM c [a]).bind fun h =>
 e h)
 else
 (e c))
 else
 (d c a)
def zbL (x0 : Vm.Repo) (b : Int → List Bool → Option ((List Int))) : Nat → Int → List Bool → Option ((List Int))
 | 0, _, _ => none
 | m + 1, a, c =>
 bif decide ((0 : Int) ≤ (a : Int)) then
 (jn (fun (f : Int) (d : List Bool) =>
 zbL x0 b m (w64 (a - 1)) d) fun e =>
 zcU x0 a e (4) 0 c)
 else
 (b a c)
def zeC (x0 : Vm.Repo) (x1 : Int) : Option ((List Int)) :=
 (mkM (x0.Commits.length : Int) (false : Bool)).bind fun a =>
 (gi a x1).bind fun g =>
 (siM a x1 true).bind fun c =>
 jn (fun (h : Int) (b : List Bool) =>
 jn (fun (d : List Int) (i : Int) =>
 some d) fun e =>
 zbK b e (((b.length : Int) - 0).toNat + 1) ([] : List Int) 0) fun f =>
 zbL x0 f ((x1 + 1 - 0).toNat + 1) x1 c
def zcV (x0 : List Int) (x1 : Int) (b : Bool → Int → Option (Bool)) : Nat → Bool → Int → Option (Bool)
 | 0, _, _ => none
 | m + 1, c, a =>
 bif decide ((a : Int) < ((x0.length : Int) : Int)) then
 ((gi x0 a).bind fun d =>
 bif ((d : Int) == (x1 : Int)) then
 (some true)
 else
 (zcV x0 x1 b m c (w64 (a + 1))))
 else
 (b c a)
def zfn (x0 : List Int) (x1 : Int) : Option (Bool) :=
 jn (fun (b : Bool) (c : Int) =>
 some false) fun a =>
 zcV x0 x1 a (((x0.length : Int) - 0).toNat + 1) false 0
def zcW (x0 : List Str) (x1 : Str) (b : Int → Option ((List Str))) : Nat → Int → Option ((List Str))
 | 0, _ => none
 | m + 1, a =>
 jn (fun (d : Bool) =>
 bif d then
 (zcW x0 x1 b m (w64 (a + 1)))
 else
 (b a)) fun c =>
 bif decide ((a : Int) < ((x0.length : Int) : Int)) then
 ((gi x0 a).bind fun e =>
 c (Op.bytesLess e x1))
 else
 (c false)
def zdu (x0 : List Str) (x1 : Str) : Option ((List Str)) :=
 jn (fun (a : Int) =>
 jn (fun (c : Bool) =>
 bif c then
 (some x0)
 else
 ((slM x0 0 a).bind fun d =>
 (apM ([] : List Str) d).bind fun e =>
 (apM e [x1]).bind fun f =>
 (slM x0 a (x0.length : Int)).bind fun g =>
 (apM f g).bind fun h =>
 some h)) fun b =>
 bif decide ((a : Int) < ((x0.length : Int) : Int)) then
 ((gi x0 a).bind fun i =>
 b (i == x1))
 else
 (b false)) fun j =>
 zcW x0 x1 j (x0.length + 1) 0
def zcX (x0 : List Vm.File) (x1 : Str) (b : List Str → Bool → Int → Option ((List Str) × Bool)) : Nat → List Str → Bool → Int → Option ((List Str) × Bool)
 | 0, _, _, _ => none
 | m + 1, c, d, a =>
 bif decide ((a : Int) < ((x0.length : Int) : Int)) then
 ((gi x0 a).bind fun e =>
 bif (e.Path == x1) then
 ((gi x0 a).bind fun f =>
 some (f.Text, true))
 else
 (zcX x0 x1 b m c d (w64 (a + 1))))
 else
 (b c d a)
def zd4 (x0 : List Vm.File) (x1 : Str) : Option ((List Str) × Bool) :=
 jn (fun (b : List Str) (c : Bool) (d : Int) =>
 some (([] : List Str), false)) fun a =>
 zcX x0 x1 a (((x0.length : Int) - 0).toNat + 1) ([] : List Str) false 0
def zcj (x0 : List Str) (x1 : List Str) (b : Bool → Int → Option (Bool)) : Nat → Bool → Int → Option (Bool)
 | 0, _, _ => none
 | m + 1, c, a =>
 bif decide ((a : Int) < ((x0.length : Int) : Int)) then
 ((gi x0 a).bind fun d =>
 (gi x1 a).bind fun e =>
 bif (d != e) then
 (some false)
 else
 (zcj x0 x1 b m c (w64 (a + 1))))
 else
 (b c a)
def zdi (x0 : List Str) (x1 : List Str) : Option (Bool) :=
 bif (((x0.length : Int) : Int) != ((x1.length : Int) : Int)) then
 (some false)
 else
 (jn (fun (b : Bool) (c : Int) =>
 some true) fun a =>
 zcj x0 x1 a (((x0.length : Int) - 0).toNat + 1) false 0)
def zbO (x0 : List Str) (x1 : List Str) (b : Int) (e : Int → List (List Int) → Option ((List (List Int)))) : Nat → Int → List (List Int) → Option ((List (List Int)))
 | 0, _, _ => none
 | m + 1, a, c =>
 bif decide ((0 : Int) ≤ (a : Int)) then
 (jn (fun (h : List (List Int)) =>
 zbO x0 x1 b e m (w64 (a - 1)) h) fun d =>
 (gi x0 b).bind fun i =>
 (gi x1 a).bind fun j =>
 bif (i == j) then
 ((gi c b).bind fun u64 =>
 (gi c (w64 (b + 1))).bind fun k =>
 (gi k (w64 (a + 1))).bind fun l =>
 (gi u64 a).bind fun B =>
 (siM u64 a (w64 (l + 1))).bind fun n =>
 (siM c b n).bind fun o =>
 d o)
 else
 ((gi c (w64 (b + 1))).bind fun p =>
 (gi p a).bind fun q =>
 (gi c b).bind fun r =>
 (gi r (w64 (a + 1))).bind fun s =>
 bif decide ((s : Int) ≤ (q : Int)) then
 ((gi c b).bind fun f =>
 (gi c (w64 (b + 1))).bind fun t =>
 (gi t a).bind fun u =>
 (gi f a).bind fun C =>
 (siM f a u).bind fun v =>
 (siM c b v).bind fun w =>
 d w)
 else
 ((gi c b).bind fun g =>
 (gi c b).bind fun x =>
 (gi x (w64 (a + 1))).bind fun y =>
 (gi g a).bind fun D =>
 (siM g a y).bind fun z =>
 (siM c b z).bind fun A =>
 d A)))
 else
 (e a c)
def zbh (x0 : List Str) (x1 : List Str) (b : Int → List (List Int) → Option ((List (List Int)))) : Nat → Int → List (List Int) → Option ((List (List Int)))
 | 0, _, _ => none
 | m + 1, a, c =>
 bif decide ((0 : Int) ≤ (a : Int)) then
 (jn (fun (f : Int) (d : List (List Int)) =>
 zbh x0 x1 b m (w64 (a - 1)) d) fun e =>
 zbO x0 x1 a e (((w64 ((x1.length : Int) - 1)) + 1 - 0).toNat + 1) (w64 ((x1.length : Int) - 1)) c)
 else
 (b a c)
def zbP (x0 : List Str) (x1 : List Str) (b : List (List Int) → Int → Option ((List (List Int)))) : Nat → List (List Int) → Int → Option ((List (List Int)))
 | 0, _, _ => none
 | m + 1, c, a =>
 bif decide ((a : Int) ≤ ((x0.length : Int) : Int)) then
 ((mkM (w64 ((x1.length : Int) + 1)) (0 : Int)).bind fun d =>
 (apM c [d]).bind fun e =>
 zbP x0 x1 b m e (w64 (a + 1)))
 else
 (b c a)
def zeZ (x0 : List Str) (x1 : List Str) : Option ((List (List Int))) :=
 jn (fun (a : List (List Int)) (e : Int) =>
 jn (fun (f : Int) (b : List (List Int)) =>
 some b) fun c =>
 zbh x0 x1 c (((w64 ((x0.length : Int) - 1)) + 1 - 0).toNat + 1) (w64 ((x0.length : Int) - 1)) a) fun d =>
 zbP x0 x1 d (((x0.length : Int) + 1 - 0).toNat + 1) ([] : List (List Int)) 0
def zb7 (x0 : List Str) (x1 : List Str) (c : (List (List Int))) (d : List Int → Int → Int → Option ((List Int))) : Nat → List Int → Int → Int → Option ((List Int))
 | 0, _, _, _ => none
 | m + 1, e, a, b =>
 bif decide ((b : Int) < ((x0.length : Int) : Int)) then
 (jn (fun (h : Bool) =>
 bif h then
 ((apM e [a]).bind fun i =>
 zb7 x0 x1 c d m i (w64 (a + 1)) (w64 (b + 1)))
 else
 (jn (fun (j : Bool) =>
 bif j then
 ((apM e [(-1)]).bind fun k =>
 zb7 x0 x1 c d m k a (w64 (b + 1)))
 else
 (zb7 x0 x1 c d m e (w64 (a + 1)) b)) fun f =>
 bif decide (((x1.length : Int) : Int) ≤ (a : Int)) then
 (f true)
 else
 ((gi c (w64 (b + 1))).bind fun l =>
 (gi l a).bind fun n =>
 (gi c b).bind fun o =>
 (gi o (w64 (a + 1))).bind fun p =>
 f (decide ((p : Int) ≤ (n : Int)))))) fun g =>
 bif decide ((a : Int) < ((x1.length : Int) : Int)) then
 ((gi x0 b).bind fun q =>
 (gi x1 a).bind fun r =>
 g (q == r))
 else
 (g false))
 else
 (d e a b)
def zdT (x0 : List Str) (x1 : List Str) : Option ((List Int)) :=
 (Vm.zeZ x0 x1).bind fun a =>
 jn (fun (b : List Int) (d : Int) (e : Int) =>
 some b) fun c =>
 zb7 x0 x1 a c (x0.length + x1.length + 1) ([] : List Int) 0 0
def zeF (x0 : Int) (x1 : Int) (x2 : Int) : Option (Bool) :=
 jn (fun (b : Bool) =>
 some b) fun a =>
 bif decide ((x1 : Int) ≤ (x0 : Int)) then
 (a (decide ((x0 : Int) ≤ (x2 : Int))))
 else
 (a false)
def zeg (x0 : zlK) : Option (Bool) :=
 jn (fun (b : Bool) =>
 some b) fun a =>
 bif decide ((97 : Int) ≤ ((UInt8.toNat x0 : Int) : Int)) then
 (bif decide (((UInt8.toNat x0 : Int) : Int) ≤ (122 : Int)) then
 (a true)
 else
 (bif decide ((48 : Int) ≤ ((UInt8.toNat x0 : Int) : Int)) then
 (a (decide (((UInt8.toNat x0 : Int) : Int) ≤ (57 : Int))))
 else
 (a false)))
 else
 (bif decide ((48 : Int) ≤ ((UInt8.toNat x0 : Int) : Int)) then
 (a (decide (((UInt8.toNat x0 : Int) : Int) ≤ (57 : Int))))
 else
 (a false))
def zck (x0 : Str) (b : Bool → Int → Option (Bool)) : Nat → Bool → Int → Option (Bool)
 | 0, _, _ => none
 | m + 1, c, a =>
 bif decide ((a : Int) < ((x0.length : Int) : Int)) then
 ((chM x0 a).bind fun d =>
 (Vm.zeg d).bind fun e =>
 bif (!e) then
 (some false)
 else
 (zck x0 b m c (w64 (a + 1))))
 else
 (b c a)
def zb0 (x0 : Str) : Option (Bool) :=
 (Vm.zeF (x0.length : Int) 1 6).bind fun a =>
 bif (!a) then
 (some false)
 else
 (jn (fun (c : Bool) (d : Int) =>
 some true) fun b =>
 zck x0 b (((x0.length : Int) - 0).toNat + 1) false 0)
def zcl (x0 : Str) (b : Bool → Int → Option (Bool)) : Nat → Bool → Int → Option (Bool)
 | 0, _, _ => none
 | m + 1, c, a =>
 bif decide ((a : Int) < ((x0.length : Int) : Int)) then
 (jn (fun (e : Bool) =>
 bif e then
 (some false)
 else
 (zcl x0 b m c (w64 (a + 1)))) fun d =>
 (chM x0 a).bind fun f =>
 bif decide (((UInt8.toNat f : Int) : Int) < (32 : Int)) then
 (d true)
 else
 ((chM x0 a).bind fun g =>
 d (decide ((126 : Int) < ((UInt8.toNat g : Int) : Int)))))
 else
 (b c a)
def zfG (x0 : Str) : Option (Bool) :=
 bif decide ((12 : Int) < ((x0.length : Int) : Int)) then
 (some false)
 else
 (jn (fun (b : Bool) (c : Int) =>
 some true) fun a =>
 zcl x0 a (((x0.length : Int) - 0).toNat + 1) false 0)
def zcm (x0 : List Str) (b : Bool → Int → Option (Bool)) : Nat → Bool → Int → Option (Bool)
 | 0, _, _ => none
 | m + 1, c, a =>
 bif decide ((a : Int) < ((x0.length : Int) : Int)) then
 ((gi x0 a).bind fun d =>
 (Vm.zfG d).bind fun e =>
 bif (!e) then
 (some false)
 else
 (zcm x0 b m c (w64 (a + 1))))
 else
 (b c a)
def zbQ (x0 : List Str) : Option (Bool) :=
 bif decide ((10 : Int) < ((x0.length : Int) : Int)) then
 (some false)
 else
 (jn (fun (b : Bool) (c : Int) =>
 some true) fun a =>
 zcm x0 a (((x0.length : Int) - 0).toNat + 1) false 0)
def strings_Split (x0 : Str) (x1 : Str) : Option ((List Str)) :=
 if x0.length ≤ 4294967000 ∧ 1 ≤ x1.length then some (Go.Lib.split x0 x1) else none
def zcn (b : (List Str)) (c : Bool → Int → Option (Bool)) : Nat → Bool → Int → Option (Bool)
 | 0, _, _ => none
 | m + 1, d, a =>
 bif decide ((a : Int) < ((b.length : Int) : Int)) then
 ((gi b a).bind fun e =>
 (Vm.zb0 e).bind fun f =>
 bif (!f) then
 (some false)
 else
 (zcn b c m d (w64 (a + 1))))
 else
 (c d a)
def zdO (x0 : Str) : Option (Bool) :=
 (Vm.strings_Split x0 ([47] : Str)).bind fun a =>
 bif decide ((3 : Int) < ((a.length : Int) : Int)) then
 (some false)
 else
 (jn (fun (c : Bool) (d : Int) =>
 some true) fun b =>
 zcn a b (((a.length : Int) - 0).toNat + 1) false 0)
def strings_HasPrefix (x0 : Str) (x1 : Str) : Option (Bool) :=
 some (Go.Lib.hasPrefix x0 x1)
def zbR (x0 : Str) (x1 : Str) : Option (Bool) :=
 jn (fun (b : Bool) =>
 some b) fun a =>
 (Vm.zdO x0).bind fun c =>
 bif c then
 ((Vm.zdO x1).bind fun d =>
 bif d then
 ((saM x0 ([47] : Str)).bind fun e =>
 (Vm.strings_HasPrefix x1 e).bind fun f =>
 a f)
 else
 (a false))
 else
 (a false)
def zbx (c : Vm.File) (b : List Vm.File) (d : Bool → Int → Option (Bool)) : Nat → Bool → Int → Option (Bool)
 | 0, _, _ => none
 | m + 1, e, a =>
 bif decide ((a : Int) < ((b.length : Int) : Int)) then
 ((gi b a).bind fun f =>
 (Vm.zbR f.Path c.Path).bind fun g =>
 bif g then
 (some false)
 else
 (zbx c b d m e (w64 (a + 1))))
 else
 (d e a)
def zco (x0 : List Vm.File) (d : Bool → Int → Option (Bool)) : Nat → Bool → Int → Option (Bool)
 | 0, _, _ => none
 | m + 1, e, a =>
 bif decide ((a : Int) < ((x0.length : Int) : Int)) then
 ((gi x0 a).bind fun b =>
 jn (fun (g : Bool) =>
 bif g then
 (some false)
 else
 ((slM x0 0 a).bind fun f =>
 jn (fun (h : Bool) (n : Int) =>
 zco x0 d m h (w64 (a + 1))) fun i =>
 zbx b f i (((f.length : Int) - 0).toNat + 1) e 0)) fun c =>
 (Vm.zbQ b.Text).bind fun j =>
 bif (!j) then
 (c true)
 else
 ((Vm.zdO b.Path).bind fun k =>
 bif (!k) then
 (c true)
 else
 (bif decide ((0 : Int) < (a : Int)) then
 ((gi x0 (w64 (a - 1))).bind fun l =>
 c (!Op.bytesLess l.Path b.Path))
 else
 (c false))))
 else
 (d e a)
def zb1 (x0 : List Vm.File) : Option (Bool) :=
 bif decide ((8 : Int) < ((x0.length : Int) : Int)) then
 (some false)
 else
 (jn (fun (b : Bool) (c : Int) =>
 some true) fun a =>
 zco x0 a (((x0.length : Int) - 0).toNat + 1) false 0)
def zbC (x0 : Vm.Repo) (x1 : Int) : Option (Bool) :=
 (Vm.zeF x1 0 (w64 ((x0.Commits.length : Int) - 1))).bind fun a =>
 some a
def zbS (x0 : Vm.Repo) (x1 : List Vm.Head) (d : Bool → Int → Option (Bool)) : Nat → Bool → Int → Option (Bool)
 | 0, _, _ => none
 | m + 1, e, a =>
 bif decide ((a : Int) < ((x1.length : Int) : Int)) then
 ((gi x1 a).bind fun c =>
 jn (fun (f : Bool) =>
 bif f then
 (some false)
 else
 (zbS x0 x1 d m e (w64 (a + 1)))) fun b =>
 (Vm.zb0 c.Name).bind fun g =>
 bif (!g) then
 (b true)
 else
 ((Vm.zbC x0 c.At).bind fun h =>
 bif (!h) then
 (b true)
 else
 (bif decide ((0 : Int) < (a : Int)) then
 ((gi x1 (w64 (a - 1))).bind fun i =>
 b (!Op.bytesLess i.Name c.Name))
 else
 (b false))))
 else
 (d e a)
def ze0 (x0 : Vm.Repo) (x1 : List Vm.Head) : Option (Bool) :=
 bif decide ((5 : Int) < ((x1.length : Int) : Int)) then
 (some false)
 else
 (jn (fun (b : Bool) (c : Int) =>
 some true) fun a =>
 zbS x0 x1 a (((x1.length : Int) - 0).toNat + 1) false 0)
def zby (c : Int) (b : Vm.Commit) (d : Bool → Int → Option (Bool)) : Nat → Bool → Int → Option (Bool)
 | 0, _, _ => none
 | m + 1, e, a =>
 bif decide ((a : Int) < ((b.Parents.length : Int) : Int)) then
 ((gi b.Parents a).bind fun f =>
 (Vm.zeF f 0 (w64 (c - 1))).bind fun g =>
 bif (!g) then
 (some false)
 else
 (zby c b d m e (w64 (a + 1))))
 else
 (d e a)
def zcp (x0 : Vm.Repo) (d : Bool → Int → Option (Bool)) : Nat → Bool → Int → Option (Bool)
 | 0, _, _ => none
 | m + 1, e, c =>
 bif decide ((c : Int) < ((x0.Commits.length : Int) : Int)) then
 ((gi x0.Commits c).bind fun a =>
 jn (fun (f : Bool) =>
 bif f then
 (some false)
 else
 (jn (fun (g : Bool) (p : Int) =>
 zcp x0 d m g (w64 (c + 1))) fun h =>
 zby c a h (((a.Parents.length : Int) - 0).toNat + 1) e 0)) fun b =>
 bif decide ((2 : Int) < ((a.Parents.length : Int) : Int)) then
 (b true)
 else
 (bif (((a.Parents.length : Int) : Int) == (2 : Int)) then
 ((gi a.Parents 0).bind fun i =>
 (gi a.Parents 1).bind fun j =>
 bif ((i : Int) == (j : Int)) then
 (b true)
 else
 ((Vm.zb0 a.Who).bind fun k =>
 bif (!k) then
 (b true)
 else
 ((Vm.zb1 a.Tree).bind fun l =>
 b (!l))))
 else
 ((Vm.zb0 a.Who).bind fun n =>
 bif (!n) then
 (b true)
 else
 ((Vm.zb1 a.Tree).bind fun o =>
 b (!o)))))
 else
 (d e c)
def zeG (x0 : Vm.Repo) : Option (Bool) :=
 bif decide ((16 : Int) < ((x0.Commits.length : Int) : Int)) then
 (some false)
 else
 (jn (fun (c : Bool) (d : Int) =>
 (Vm.ze0 x0 x0.Heads).bind fun a =>
 some a) fun b =>
 zcp x0 b (((x0.Commits.length : Int) - 0).toNat + 1) false 0)
def zbT (x0 : Vm.Repo) (x1 : Str) (b : Int → Int → Option (Int)) : Nat → Int → Int → Option (Int)
 | 0, _, _ => none
 | m + 1, c, a =>
 bif decide ((a : Int) < ((x0.Heads.length : Int) : Int)) then
 ((gi x0.Heads a).bind fun d =>
 bif (d.Name == x1) then
 (some d.At)
 else
 (zbT x0 x1 b m c (w64 (a + 1))))
 else
 (b c a)
def zcz (x0 : Vm.Repo) (x1 : Str) : Option (Int) :=
 jn (fun (b : Int) (c : Int) =>
 some (-1)) fun a =>
 zbT x0 x1 a (((x0.Heads.length : Int) - 0).toNat + 1) 0 0
def zbu (x0 : List Str) : Option ((List Str)) :=
 (apM ([] : List Str) x0).bind fun a =>
 some a
def zaK (d : List Bool → Option ((List Bool))) (a : Vm.Commit)  : Nat → Int → List Bool → Option ((List Bool))
 | 0, _, _ => none
 | m + 1, b, c =>
 bif decide ((b : Int) < ((a.Parents.length : Int) : Int)) then
 ((gi a.Parents b).bind fun e =>
 (gi c e).bind fun g =>
 (siM c e true).bind fun f =>
 zaK d a m (w64 (b + 1)) f)
 else
 (d c)
def zaE (x0 : Vm.Repo) (c : Int → List Bool → Option ((List Bool))) : Nat → Int → List Bool → Option ((List Bool))
 | 0, _, _ => none
 | m + 1, a, b =>
 bif decide ((0 : Int) ≤ (a : Int)) then
 (jn (fun (f : List Bool) =>
 zaE x0 c m (w64 (a - 1)) f) fun d =>
 (gi b a).bind fun g =>
 bif g then
 ((gi x0.Commits a).bind fun e =>
 zaK d e (((e.Parents.length : Int) - 0).toNat + 1) 0 b)
 else
 (d b))
 else
 (c a b)
def zaU (x0 : Vm.Repo) (x1 : Int) : Option ((List Bool)) :=
 (mkM (x0.Commits.length : Int) (false : Bool)).bind fun a =>
 (gi a x1).bind fun e =>
 (siM a x1 true).bind fun b =>
 jn (fun (f : Int) (c : List Bool) =>
 some c) fun d =>
 zaE x0 d ((x1 + 1 - 0).toNat + 1) x1 b
def zcq (x0 : List Bool) (c : List Int → Int → Option ((List Int))) : Nat → List Int → Int → Option ((List Int))
 | 0, _, _ => none
 | m + 1, b, a =>
 bif decide ((a : Int) < ((x0.length : Int) : Int)) then
 (jn (fun (e : List Int) =>
 zcq x0 c m e (w64 (a + 1))) fun d =>
 (gi x0 a).bind fun f =>
 bif f then
 ((apM b [a]).bind fun g =>
 d g)
 else
 (d b))
 else
 (c b a)
def za9 (x0 : List Bool) : Option ((List Int)) :=
 jn (fun (a : List Int) (c : Int) =>
 some a) fun b =>
 zcq x0 b (((x0.length : Int) - 0).toNat + 1) ([] : List Int) 0
def zaF (x0 : Vm.Repo) (x1 : Int) : Option ((List Vm.File)) :=
 bif decide ((x1 : Int) < (0 : Int)) then
 (some ([] : List File))
 else
 ((gi x0.Commits x1).bind fun a =>
 some a.Tree)
def zay (x0 : List Str) : Option ((List Str)) :=
 if x0.length ≤ 4294967296 then some (zcS x0) else none
def za2 (x0 : List Str) : Option ((List Str)) :=
 if x0.length ≤ 4294967296 then some (zlI x0) else none
def zcZ (x0 : List Vm.File) (x1 : Str) (b : List Str → Bool → Int → Option ((List Str) × Bool)) : Nat → List Str → Bool → Int → Option ((List Str) × Bool)
 | 0, _, _, _ => none
 | m + 1, c, d, a =>
 bif decide ((a : Int) < ((x0.length : Int) : Int)) then
 ((gi x0 a).bind fun e =>
 bif (e.Path == x1) then
 ((Vm.zbu e.Text).bind fun f =>
 some (f, true))
 else
 (zcZ x0 x1 b m c d (w64 (a + 1))))
 else
 (b c d a)
def zge (x0 : List Vm.File) (x1 : Str) : Option ((List Str) × Bool) :=
 jn (fun (b : List Str) (c : Bool) (d : Int) =>
 some (([] : List Str), false)) fun a =>
 zcZ x0 x1 a (((x0.length : Int) - 0).toNat + 1) ([] : List Str) false 0
def zax (x0 : List Str) (x1 : List Str) (b : Bool → Int → Option (Bool)) : Nat → Bool → Int → Option (Bool)
 | 0, _, _ => none
 | m + 1, c, a =>
 bif decide ((a : Int) < ((x0.length : Int) : Int)) then
 ((gi x0 a).bind fun d =>
 (gi x1 a).bind fun e =>
 bif (d != e) then
 (some false)
 else
 (zax x0 x1 b m c (w64 (a + 1))))
 else
 (b c a)
def zaw (x0 : List Str) (x1 : List Str) : Option (Bool) :=
 bif (((x0.length : Int) : Int) != ((x1.length : Int) : Int)) then
 (some false)
 else
 (jn (fun (b : Bool) (c : Int) =>
 some true) fun a =>
 zax x0 x1 a (((x0.length : Int) - 0).toNat + 1) false 0)
def zd5 (x0 : List Str) (x1 : List Str) (b : Int) (d : Int → List (List Int) → Option ((List (List Int)))) : Nat → Int → List (List Int) → Option ((List (List Int)))
 | 0, _, _ => none
 | m + 1, a, c =>
 bif decide ((0 : Int) ≤ (a : Int)) then
 (jn (fun (h : List (List Int)) =>
 zd5 x0 x1 b d m (w64 (a - 1)) h) fun e =>
 (gi x0 b).bind fun i =>
 (gi x1 a).bind fun j =>
 bif (i == j) then
 ((gi c b).bind fun f =>
 (gi c (w64 (b + 1))).bind fun k =>
 (gi k (w64 (a + 1))).bind fun l =>
 (gi f a).bind fun v =>
 (siM f a (w64 (l + 1))).bind fun n =>
 (siM c b n).bind fun o =>
 e o)
 else
 ((gi c b).bind fun g =>
 (gi c (w64 (b + 1))).bind fun p =>
 (gi p a).bind fun q =>
 (gi c b).bind fun r =>
 (gi r (w64 (a + 1))).bind fun s =>
 (gi g a).bind fun w =>
 (siM g a (zq7 q s)).bind fun t =>
 (siM c b t).bind fun u =>
 e u))
 else
 (d a c)
def zc0 (x0 : List Str) (x1 : List Str) (b : Int → List (List Int) → Option ((List (List Int)))) : Nat → Int → List (List Int) → Option ((List (List Int)))
 | 0, _, _ => none
 | m + 1, a, c =>
 bif decide ((0 : Int) ≤ (a : Int)) then
 (jn (fun (f : Int) (d : List (List Int)) =>
 zc0 x0 x1 b m (w64 (a - 1)) d) fun e =>
 zd5 x0 x1 a e (((w64 ((x1.length : Int) - 1)) + 1 - 0).toNat + 1) (w64 ((x1.length : Int) - 1)) c)
 else
 (b a c)
def zd6 (x1 : List Str) (c : List (List Int)) (d : Int → List (List Int) → Option ((List (List Int)))) : Nat → Int → List (List Int) → Option ((List (List Int)))
 | 0, _, _ => none
 | m + 1, a, b =>
 bif decide ((a : Int) < ((c.length : Int) : Int)) then
 ((mkM (w64 ((x1.length : Int) + 1)) (0 : Int)).bind fun e =>
 (gi b a).bind fun g =>
 (siM b a e).bind fun f =>
 zd6 x1 c d m (w64 (a + 1)) f)
 else
 (d a b)
def zi4 (x0 : List Str) (x1 : List Str) : Option ((List (List Int))) :=
 (mkM (w64 ((x0.length : Int) + 1)) (([] : List Int) : List Int)).bind fun a =>
 jn (fun (f : Int) (b : List (List Int)) =>
 jn (fun (g : Int) (c : List (List Int)) =>
 some c) fun d =>
 zc0 x0 x1 d (((w64 ((x0.length : Int) - 1)) + 1 - 0).toNat + 1) (w64 ((x0.length : Int) - 1)) b) fun e =>
 zd6 x1 a e (((a.length : Int) - 0).toNat + 1) 0 a
def zde (x0 : List Str) (x1 : List Str) (c : (List (List Int))) (d : List Int → Int → Int → Option ((List Int))) : Nat → List Int → Int → Int → Option ((List Int))
 | 0, _, _, _ => none
 | m + 1, e, b, a =>
 bif decide ((b : Int) < ((x0.length : Int) : Int)) then
 (jn (fun (h : Bool) =>
 bif h then
 ((apM e [a]).bind fun i =>
 zde x0 x1 c d m i (w64 (b + 1)) (w64 (a + 1)))
 else
 (jn (fun (j : Bool) =>
 bif j then
 ((apM e [(-1)]).bind fun k =>
 zde x0 x1 c d m k (w64 (b + 1)) a)
 else
 (zde x0 x1 c d m e b (w64 (a + 1)))) fun f =>
 bif ((a : Int) == ((x1.length : Int) : Int)) then
 (f true)
 else
 ((gi c (w64 (b + 1))).bind fun l =>
 (gi l a).bind fun n =>
 (gi c b).bind fun u64 =>
 (gi u64 (w64 (a + 1))).bind fun o =>
 f (decide ((o : Int) ≤ (n : Int)))))) fun g =>
 bif decide ((a : Int) < ((x1.length : Int) : Int)) then
 ((gi x0 b).bind fun p =>
 (gi x1 a).bind fun q =>
 g (p == q))
 else
 (g false))
 else
 (d e b a)
def zfo (x0 : List Str) (x1 : List Str) : Option ((List Int)) :=
 (Vm.zi4 x0 x1).bind fun a =>
 jn (fun (b : List Int) (d : Int) (e : Int) =>
 some b) fun c =>
 zde x0 x1 a c (x0.length + x1.length + 1) ([] : List Int) 0 0
def zfH (x0 : List Int) (x1 : List Int) (b : Bool → Int → Option (Bool)) : Nat → Bool → Int → Option (Bool)
 | 0, _, _ => none
 | m + 1, c, a =>
 bif decide ((a : Int) < ((x0.length : Int) : Int)) then
 ((gi x0 a).bind fun d =>
 (gi x1 a).bind fun e =>
 bif ((d : Int) != (e : Int)) then
 (some false)
 else
 (zfH x0 x1 b m c (w64 (a + 1))))
 else
 (b c a)
def ziW (x0 : List Int) (x1 : List Int) : Option (Bool) :=
 bif (((x0.length : Int) : Int) != ((x1.length : Int) : Int)) then
 (some false)
 else
 (jn (fun (b : Bool) (c : Int) =>
 some true) fun a =>
 zfH x0 x1 a (((x0.length : Int) - 0).toNat + 1) false 0)
def zcr (x0 : List Str) (x1 : List Str) (b : Bool → Int → Option (Bool)) : Nat → Bool → Int → Option (Bool)
 | 0, _, _ => none
 | m + 1, c, a =>
 bif decide ((a : Int) < ((x0.length : Int) : Int)) then
 ((gi x0 a).bind fun d =>
 (gi x1 a).bind fun e =>
 bif (d != e) then
 (some false)
 else
 (zcr x0 x1 b m c (w64 (a + 1))))
 else
 (b c a)
def zcI (x0 : List Str) (x1 : List Str) : Option (Bool) :=
 bif (((x0.length : Int) : Int) != ((x1.length : Int) : Int)) then
 (some false)
 else
 (jn (fun (b : Bool) (c : Int) =>
 some true) fun a =>
 zcr x0 x1 a (((x0.length : Int) - 0).toNat + 1) false 0)
def ziX (x0 : Vm.File) (x1 : Vm.File) : Option (Bool) :=
 bif (x0.Path != x1.Path) then
 (some false)
 else
 ((Vm.zcI x0.Text x1.Text).bind fun a =>
 bif (!a) then
 (some false)
 else
 (some true))
def zfh (x0 : List Vm.File) (x1 : List Vm.File) (b : Bool → Int → Option (Bool)) : Nat → Bool → Int → Option (Bool)
 | 0, _, _ => none
 | m + 1, c, a =>
 bif decide ((a : Int) < ((x0.length : Int) : Int)) then
 ((gi x0 a).bind fun d =>
 (gi x1 a).bind fun e =>
 (Vm.ziX d e).bind fun f =>
 bif (!f) then
 (some false)
 else
 (zfh x0 x1 b m c (w64 (a + 1))))
 else
 (b c a)
def zh3 (x0 : List Vm.File) (x1 : List Vm.File) : Option (Bool) :=
 bif (((x0.length : Int) : Int) != ((x1.length : Int) : Int)) then
 (some false)
 else
 (jn (fun (b : Bool) (c : Int) =>
 some true) fun a =>
 zfh x0 x1 a (((x0.length : Int) - 0).toNat + 1) false 0)
def zho (x0 : Vm.Commit) (x1 : Vm.Commit) : Option (Bool) :=
 (Vm.ziW x0.Parents x1.Parents).bind fun a =>
 bif (!a) then
 (some false)
 else
 (bif (x0.Who != x1.Who) then
 (some false)
 else
 ((Vm.zh3 x0.Tree x1.Tree).bind fun b =>
 bif (!b) then
 (some false)
 else
 (some true)))
def zd7 (x0 : List Vm.Commit) (x1 : List Vm.Commit) (b : Bool → Int → Option (Bool)) : Nat → Bool → Int → Option (Bool)
 | 0, _, _ => none
 | m + 1, c, a =>
 bif decide ((a : Int) < ((x0.length : Int) : Int)) then
 ((gi x0 a).bind fun d =>
 (gi x1 a).bind fun e =>
 (Vm.zho d e).bind fun f =>
 bif (!f) then
 (some false)
 else
 (zd7 x0 x1 b m c (w64 (a + 1))))
 else
 (b c a)
def zgv (x0 : List Vm.Commit) (x1 : List Vm.Commit) : Option (Bool) :=
 bif (((x0.length : Int) : Int) != ((x1.length : Int) : Int)) then
 (some false)
 else
 (jn (fun (b : Bool) (c : Int) =>
 some true) fun a =>
 zd7 x0 x1 a (((x0.length : Int) - 0).toNat + 1) false 0)
def ziY (x0 : Vm.Head) (x1 : Vm.Head) : Option (Bool) :=
 bif (x0.Name != x1.Name) then
 (some false)
 else
 (bif ((x0.At : Int) != (x1.At : Int)) then
 (some false)
 else
 (some true))
def zfi (x0 : List Vm.Head) (x1 : List Vm.Head) (b : Bool → Int → Option (Bool)) : Nat → Bool → Int → Option (Bool)
 | 0, _, _ => none
 | m + 1, c, a =>
 bif decide ((a : Int) < ((x0.length : Int) : Int)) then
 ((gi x0 a).bind fun d =>
 (gi x1 a).bind fun e =>
 (Vm.ziY d e).bind fun f =>
 bif (!f) then
 (some false)
 else
 (zfi x0 x1 b m c (w64 (a + 1))))
 else
 (b c a)
def zh4 (x0 : List Vm.Head) (x1 : List Vm.Head) : Option (Bool) :=
 bif (((x0.length : Int) : Int) != ((x1.length : Int) : Int)) then
 (some false)
 else
 (jn (fun (b : Bool) (c : Int) =>
 some true) fun a =>
 zfi x0 x1 a (((x0.length : Int) - 0).toNat + 1) false 0)
def zfI (x0 : Vm.Repo) (x1 : Vm.Repo) : Option (Bool) :=
 (Vm.zgv x0.Commits x1.Commits).bind fun a =>
 bif (!a) then
 (some false)
 else
 ((Vm.zh4 x0.Heads x1.Heads).bind fun b =>
 bif (!b) then
 (some false)
 else
 (some true))
def zeH  (d : Int → Int → List Int → Option (Int × (List Int))) : Nat → Int → Int → List Int → Option (Int × (List Int))
 | 0, _, _, _ => none
 | m + 1, c, a, b =>
 bif decide ((a : Int) < ((b.length : Int) : Int)) then
 ((gi b a).bind fun f =>
 (siM b a c).bind fun e =>
 zeH d m (w64 (c + 1)) (w64 (a + 1)) e)
 else
 (d c a b)
def zhp (x0 : List Int) (x1 : Int) : Option (Int × (List Int)) :=
 jn (fun (a : Int) (d : Int) (b : List Int) =>
 some (a, b)) fun c =>
 zeH c (((x0.length : Int) - 0).toNat + 1) x1 0 x0
def zdU  (b : Int → Str → Option (Str)) : Nat → Int → Str → Option (Str)
 | 0, _, _ => none
 | m + 1, a, c =>
 bif decide ((0 : Int) < (a : Int)) then
 ((saM (([(by8 (w64 (48 + (Int.tmod a 10))))] : List zlK) : Str) c).bind fun d =>
 zdU b m (w64 (Int.tdiv a 10)) d)
 else
 (b a c)
def za0 (x0 : Int) : Option (Str) :=
 bif decide ((x0 : Int) ≤ (0 : Int)) then
 (some ([109, 48] : Str))
 else
 (jn (fun (d : Int) (a : Str) =>
 (saM ([109] : Str) a).bind fun b =>
 some b) fun c =>
 zdU c ((x0 - 0).toNat + 1) x0 ([] : Str))
def zbH  (d : Int → Int → List Str → Option (Int × (List Str))) : Nat → Int → Int → List Str → Option (Int × (List Str))
 | 0, _, _, _ => none
 | m + 1, c, a, b =>
 bif decide ((a : Int) < ((b.length : Int) : Int)) then
 ((Vm.za0 c).bind fun e =>
 (gi b a).bind fun g =>
 (siM b a e).bind fun f =>
 zbH d m (w64 (c + 1)) (w64 (a + 1)) f)
 else
 (d c a b)
def zb8 (x0 : List Str) (x1 : Int) : Option (Int × (List Str)) :=
 jn (fun (a : Int) (d : Int) (b : List Str) =>
 some (a, b)) fun c =>
 zbH c (((x0.length : Int) - 0).toNat + 1) x1 0 x0
def zd8  (d : Int → Int → List Vm.File → Option (Int × (List Vm.File))) : Nat → Int → Int → List Vm.File → Option (Int × (List Vm.File))
 | 0, _, _, _ => none
 | m + 1, c, a, b =>
 bif decide ((a : Int) < ((b.length : Int) : Int)) then
 ((Vm.za0 c).bind fun h =>
 (gi b a).bind fun i =>
 (siM b a (Vm.File.mk h i.Text)).bind fun e =>
 (gi e a).bind fun f =>
 (Vm.zb8 f.Text (w64 (c + 1))).bind fun g =>
 (siM e a (Vm.File.mk f.Path g.2)).bind fun j =>
 zd8 d m g.1 (w64 (a + 1)) j)
 else
 (d c a b)
def zgw (x0 : List Vm.File) (x1 : Int) : Option (Int × (List Vm.File)) :=
 jn (fun (a : Int) (d : Int) (b : List Vm.File) =>
 some (a, b)) fun c =>
 zd8 c (((x0.length : Int) - 0).toNat + 1) x1 0 x0
def zdj  (f : Int → Int → List Vm.Commit → Option (Int × (List Vm.Commit))) : Nat → Int → Int → List Vm.Commit → Option (Int × (List Vm.Commit))
 | 0, _, _, _ => none
 | m + 1, g, a, b =>
 bif decide ((a : Int) < ((b.length : Int) : Int)) then
 ((gi b a).bind fun c =>
 (Vm.zhp c.Parents g).bind fun d =>
 (siM b a (Vm.Commit.mk d.2 c.Who c.Tree)).bind fun h =>
 (Vm.za0 d.1).bind fun l =>
 (gi h a).bind fun i =>
 (siM h a (Vm.Commit.mk i.Parents l i.Tree)).bind fun j =>
 (gi j a).bind fun e =>
 (Vm.zgw e.Tree (w64 (d.1 + 1))).bind fun k =>
 (siM j a (Vm.Commit.mk e.Parents e.Who k.2)).bind fun n =>
 zdj f m k.1 (w64 (a + 1)) n)
 else
 (f g a b)
def zfp (x0 : List Vm.Commit) (x1 : Int) : Option (Int × (List Vm.Commit)) :=
 jn (fun (a : Int) (d : Int) (b : List Vm.Commit) =>
 some (a, b)) fun c =>
 zdj c (((x0.length : Int) - 0).toNat + 1) x1 0 x0
def zd9  (d : Int → Int → List Vm.Head → Option (Int × (List Vm.Head))) : Nat → Int → Int → List Vm.Head → Option (Int × (List Vm.Head))
 | 0, _, _, _ => none
 | m + 1, b, a, c =>
 bif decide ((a : Int) < ((c.length : Int) : Int)) then
 ((Vm.za0 b).bind fun f =>
 (gi c a).bind fun g =>
 (siM c a (Vm.Head.mk f g.At)).bind fun e =>
 (gi e a).bind fun h =>
 (siM e a (Vm.Head.mk h.Name (w64 (b + 1)))).bind fun i =>
 zd9 d m (w64 ((w64 (b + 1)) + 1)) (w64 (a + 1)) i)
 else
 (d b a c)
def zgx (x0 : List Vm.Head) (x1 : Int) : Option (Int × (List Vm.Head)) :=
 jn (fun (a : Int) (d : Int) (b : List Vm.Head) =>
 some (a, b)) fun c =>
 zd9 c (((x0.length : Int) - 0).toNat + 1) x1 0 x0
def zfw (x0 : Vm.Repo) (x1 : Int) : Option (Int × Vm.Repo) :=
 (Vm.zfp x0.Commits x1).bind fun a =>
 (Vm.zgx x0.Heads a.1).bind fun b =>
 some (b.1, Vm.Repo.mk a.2 b.2)
def zbI (x0 : List Str) (c : Int → Int → Int → Option (Int)) : Nat → Int → Int → Int → Option (Int)
 | 0, _, _, _ => none
 | m + 1, b, d, a =>
 bif decide ((a : Int) < ((x0.length : Int) : Int)) then
 ((gi x0 a).bind fun e =>
 (Vm.za0 b).bind fun f =>
 bif (e != f) then
 (some (-1))
 else
 (zbI x0 c m (w64 (b + 1)) d (w64 (a + 1))))
 else
 (c b d a)
def zcJ (x0 : List Str) (x1 : Int) : Option (Int) :=
 jn (fun (a : Int) (c : Int) (d : Int) =>
 some a) fun b =>
 zbI x0 b (((x0.length : Int) - 0).toNat + 1) x1 0 0
end Go.Vm
