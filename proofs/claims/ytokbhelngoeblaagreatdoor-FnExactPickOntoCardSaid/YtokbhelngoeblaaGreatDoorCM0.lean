/- Models of the functions: plain Lean, printed by a program of ours. Conditions: none. -/
import Derived.Test.YtokbhelngoeblaaGreatDoorCLw
import Derived.Lib.SplitLaws
import Derived.Lib.IndexMore
import Derived.Lib.Join
import Derived.Lib.ItoaNum
namespace Go.Vm
open Go Go.Sx
set_option linter.unusedVariables false
set_option linter.unusedSimpArgs false
def zeE (x0 : Int) (x1 : Int) (x2 : Int) : Option (Bool) :=
 jn (fun (b : Bool) =>
 some b) fun a =>
 bif decide ((x1 : Int) ≤ (x0 : Int)) then
 (a (decide ((x0 : Int) ≤ (x2 : Int))))
 else
 (a false)
def zcs (x0 : Str) (c : Bool → Int → Option (Bool)) : Nat → Bool → Int → Option (Bool)
 | 0, _, _ => none
 | m + 1, d, a =>
 bif decide ((a : Int) < ((x0.length : Int) : Int)) then
 (jn (fun (e : Bool) =>
 bif e then
 (some false)
 else
 (zcs x0 c m d (w64 (a + 1)))) fun b =>
 (chM x0 a).bind fun f =>
 bif decide (((UInt8.toNat f : Int) : Int) < (97 : Int)) then
 ((chM x0 a).bind fun g =>
 bif decide (((UInt8.toNat g : Int) : Int) < (48 : Int)) then
 (b true)
 else
 ((chM x0 a).bind fun h =>
 b (decide ((57 : Int) < ((UInt8.toNat h : Int) : Int)))))
 else
 ((chM x0 a).bind fun i =>
 bif decide ((122 : Int) < ((UInt8.toNat i : Int) : Int)) then
 ((chM x0 a).bind fun j =>
 bif decide (((UInt8.toNat j : Int) : Int) < (48 : Int)) then
 (b true)
 else
 ((chM x0 a).bind fun k =>
 b (decide ((57 : Int) < ((UInt8.toNat k : Int) : Int)))))
 else
 (b false)))
 else
 (c d a)
def zcm (x0 : Str) : Option (Bool) :=
 jn (fun (c : Bool) (d : Int) =>
 (Vm.zeE (x0.length : Int) 1 6).bind fun a =>
 some a) fun b =>
 zcs x0 b (((x0.length : Int) - 0).toNat + 1) false 0
def zeF (x0 : Str) (x1 : Byte) (x2 : Int) (d : List Str → Int → Int → Option ((List Str))) : Nat → List Str → Int → Int → Option ((List Str))
 | 0, _, _, _ => none
 | m + 1, b, c, a =>
 jn (fun (g : Bool) =>
 bif g then
 (jn (fun (h : List Str) (i : Int) =>
 zeF x0 x1 x2 d m h i (w64 (a + 1))) fun e =>
 (chM x0 a).bind fun j =>
 bif (((UInt8.toNat j : Int) : Int) == ((UInt8.toNat x1 : Int) : Int)) then
 ((slM x0 c a).bind fun k =>
 (apM b [k]).bind fun l =>
 e l (w64 (a + 1)))
 else
 (e b c))
 else
 (d b c a)) fun f =>
 bif decide ((a : Int) < ((x0.length : Int) : Int)) then
 (f (decide (((b.length : Int) : Int) < (x2 : Int))))
 else
 (f false)
def zhH (x0 : Str) (x1 : Byte) (x2 : Int) : Option ((List Str)) :=
 jn (fun (a : List Str) (b : Int) (f : Int) =>
 (slM x0 b (x0.length : Int)).bind fun c =>
 (apM a [c]).bind fun d =>
 some d) fun e =>
 zeF x0 x1 x2 e (x0.length + 1) ([] : List Str) 0 0
def zct (b : (List Str)) (c : Bool → Int → Option (Bool)) : Nat → Bool → Int → Option (Bool)
 | 0, _, _ => none
 | m + 1, d, a =>
 bif decide ((a : Int) < ((b.length : Int) : Int)) then
 ((gi b a).bind fun e =>
 (Vm.zcm e).bind fun f =>
 bif (!f) then
 (some false)
 else
 (zct b c m d (w64 (a + 1))))
 else
 (c d a)
def zcZ (x0 : Str) : Option (Bool) :=
 (Vm.zhH x0 (UInt8.ofNatLT 47 (by decide) : Byte) 3).bind fun a =>
 jn (fun (c : Bool) (d : Int) =>
 some (decide (((a.length : Int) : Int) ≤ (3 : Int)))) fun b =>
 zct a b (((a.length : Int) - 0).toNat + 1) false 0
def zcu (x0 : Str) (b : Bool → Int → Option (Bool)) : Nat → Bool → Int → Option (Bool)
 | 0, _, _ => none
 | m + 1, c, a =>
 bif decide ((a : Int) < ((x0.length : Int) : Int)) then
 (jn (fun (e : Bool) =>
 bif e then
 (some false)
 else
 (zcu x0 b m c (w64 (a + 1)))) fun d =>
 (chM x0 a).bind fun f =>
 bif decide (((UInt8.toNat f : Int) : Int) < (32 : Int)) then
 (d true)
 else
 ((chM x0 a).bind fun g =>
 d (decide ((126 : Int) < ((UInt8.toNat g : Int) : Int)))))
 else
 (b c a)
def zge (x0 : Str) : Option (Bool) :=
 jn (fun (b : Bool) (c : Int) =>
 some (decide (((x0.length : Int) : Int) ≤ (12 : Int)))) fun a =>
 zcu x0 a (((x0.length : Int) - 0).toNat + 1) false 0
def zdG (x0 : List Str) (b : Bool → Int → Option (Bool)) : Nat → Bool → Int → Option (Bool)
 | 0, _, _ => none
 | m + 1, c, a =>
 bif decide ((a : Int) < ((x0.length : Int) : Int)) then
 ((gi x0 a).bind fun d =>
 (Vm.zge d).bind fun e =>
 bif (!e) then
 (some false)
 else
 (zdG x0 b m c (w64 (a + 1))))
 else
 (b c a)
def zdm (x0 : List Str) : Option (Bool) :=
 jn (fun (b : Bool) (c : Int) =>
 some (decide (((x0.length : Int) : Int) ≤ (10 : Int)))) fun a =>
 zdG x0 a (((x0.length : Int) - 0).toNat + 1) false 0
def zhl (x0 : Str) (x1 : Str) : Option (Bool) :=
 jn (fun (b : Bool) =>
 some b) fun a =>
 bif decide (((x0.length : Int) : Int) < ((x1.length : Int) : Int)) then
 ((slM x1 0 (x0.length : Int)).bind fun c =>
 bif (c == x0) then
 ((chM x1 (x0.length : Int)).bind fun d =>
 a (((UInt8.toNat d : Int) : Int) == (47 : Int)))
 else
 (a false))
 else
 (a false)
def zcj (x0 : List Vm.File) (b : Int) (c : Bool → Int → Option (Bool)) : Nat → Bool → Int → Option (Bool)
 | 0, _, _ => none
 | m + 1, d, a =>
 bif decide ((a : Int) < ((x0.length : Int) : Int)) then
 ((gi x0 b).bind fun e =>
 (gi x0 a).bind fun f =>
 (Vm.zhl e.Path f.Path).bind fun g =>
 bif g then
 (some false)
 else
 (zcj x0 b c m d (w64 (a + 1))))
 else
 (c d a)
def zdH (x0 : List Vm.File) (c : Bool → Int → Option (Bool)) : Nat → Bool → Int → Option (Bool)
 | 0, _, _ => none
 | m + 1, d, a =>
 bif decide ((a : Int) < ((x0.length : Int) : Int)) then
 (jn (fun (g : Bool) =>
 bif g then
 (some false)
 else
 (jn (fun (h : Bool) (o : Int) =>
 zdH x0 c m h (w64 (a + 1))) fun i =>
 zcj x0 a i (((x0.length : Int) - 0).toNat + 1) d 0)) fun b =>
 (gi x0 a).bind fun j =>
 (Vm.zcZ j.Path).bind fun k =>
 bif (!k) then
 (b true)
 else
 ((gi x0 a).bind fun l =>
 (Vm.zdm l.Text).bind fun n =>
 bif (!n) then
 (b true)
 else
 (bif decide ((0 : Int) < (a : Int)) then
 ((gi x0 a).bind fun e =>
 (gi x0 (w64 (a - 1))).bind fun f =>
 b (Op.bytesLess e.Path f.Path || e.Path == f.Path))
 else
 (b false))))
 else
 (c d a)
def zeG (x0 : List Vm.File) : Option (Bool) :=
 jn (fun (b : Bool) (c : Int) =>
 some (decide (((x0.length : Int) : Int) ≤ (8 : Int)))) fun a =>
 zdH x0 a (((x0.length : Int) - 0).toNat + 1) false 0
def zck (d : Int) (b : Vm.Commit) (e : Bool → Int → Option (Bool)) : Nat → Bool → Int → Option (Bool)
 | 0, _, _ => none
 | m + 1, f, a =>
 bif decide ((a : Int) < ((b.Parents.length : Int) : Int)) then
 (jn (fun (g : Bool) =>
 bif g then
 (some false)
 else
 (zck d b e m f (w64 (a + 1)))) fun c =>
 (gi b.Parents a).bind fun h =>
 (Vm.zeE h 0 (w64 (d - 1))).bind fun i =>
 bif (!i) then
 (c true)
 else
 (bif decide ((0 : Int) < (a : Int)) then
 ((gi b.Parents a).bind fun j =>
 (gi b.Parents 0).bind fun k =>
 c ((j : Int) == (k : Int)))
 else
 (c false)))
 else
 (e f a)
def zcl (x0 : Vm.Repo) (c : Bool → Int → Option (Bool)) : Nat → Bool → Int → Option (Bool)
 | 0, _, _ => none
 | m + 1, d, a =>
 bif decide ((a : Int) < ((x0.Heads.length : Int) : Int)) then
 (jn (fun (g : Bool) =>
 bif g then
 (some false)
 else
 (zcl x0 c m d (w64 (a + 1)))) fun b =>
 (gi x0.Heads a).bind fun h =>
 (Vm.zcm h.Name).bind fun i =>
 bif (!i) then
 (b true)
 else
 ((gi x0.Heads a).bind fun j =>
 (Vm.zeE j.At 0 (w64 ((x0.Commits.length : Int) - 1))).bind fun k =>
 bif (!k) then
 (b true)
 else
 (bif decide ((0 : Int) < (a : Int)) then
 ((gi x0.Heads a).bind fun e =>
 (gi x0.Heads (w64 (a - 1))).bind fun f =>
 b (Op.bytesLess e.Name f.Name || e.Name == f.Name))
 else
 (b false))))
 else
 (c d a)
def zdI (x0 : Vm.Repo) (d : Bool → Int → Option (Bool)) : Nat → Bool → Int → Option (Bool)
 | 0, _, _ => none
 | m + 1, e, a =>
 bif decide ((a : Int) < ((x0.Commits.length : Int) : Int)) then
 ((gi x0.Commits a).bind fun b =>
 jn (fun (f : Bool) (k : Int) =>
 jn (fun (g : Bool) =>
 bif g then
 (some false)
 else
 (zdI x0 d m f (w64 (a + 1)))) fun c =>
 bif decide ((2 : Int) < ((b.Parents.length : Int) : Int)) then
 (c true)
 else
 ((Vm.zcm b.Who).bind fun h =>
 bif (!h) then
 (c true)
 else
 ((Vm.zeG b.Tree).bind fun i =>
 c (!i)))) fun j =>
 zck a b j (((b.Parents.length : Int) - 0).toNat + 1) e 0)
 else
 (d e a)
def zc7 (x0 : Vm.Repo) : Option (Bool) :=
 jn (fun (b : Bool) (f : Int) =>
 jn (fun (g : Bool) (h : Int) =>
 jn (fun (c : Bool) =>
 some c) fun a =>
 bif decide (((x0.Commits.length : Int) : Int) ≤ (16 : Int)) then
 (a (decide (((x0.Heads.length : Int) : Int) ≤ (5 : Int))))
 else
 (a false)) fun d =>
 zcl x0 d (((x0.Heads.length : Int) - 0).toNat + 1) b 0) fun e =>
 zdI x0 e (((x0.Commits.length : Int) - 0).toNat + 1) false 0
def zdJ (x0 : Vm.Repo) (x1 : Str) (b : Int → Int → Option (Int)) : Nat → Int → Int → Option (Int)
 | 0, _, _ => none
 | m + 1, c, a =>
 bif decide ((a : Int) < ((x0.Heads.length : Int) : Int)) then
 ((gi x0.Heads a).bind fun d =>
 bif (d.Name == x1) then
 ((gi x0.Heads a).bind fun e =>
 some e.At)
 else
 (zdJ x0 x1 b m c (w64 (a + 1))))
 else
 (b c a)
def zc8 (x0 : Vm.Repo) (x1 : Str) : Option (Int) :=
 jn (fun (b : Int) (c : Int) =>
 some (-1)) fun a =>
 zdJ x0 x1 a (((x0.Heads.length : Int) - 0).toNat + 1) 0 0
def zc0 (x0 : Vm.Repo) (a : Int) (d : Int → List Bool → Option ((List Int))) : Nat → Int → List Bool → Option ((List Int))
 | 0, _, _ => none
 | m + 1, b, c =>
 jn (fun (g : Bool) =>
 bif g then
 ((gi x0.Commits a).bind fun h =>
 (gi h.Parents b).bind fun e =>
 (gi c e).bind fun l =>
 (siM c e true).bind fun i =>
 zc0 x0 a d m (w64 (b + 1)) i)
 else
 (d b c)) fun f =>
 (gi x0.Commits a).bind fun j =>
 bif decide ((b : Int) < ((j.Parents.length : Int) : Int)) then
 ((gi c a).bind fun k =>
 f k)
 else
 (f false)
def zbV (b : List Bool) (d : List Int → Int → Option ((List Int))) : Nat → List Int → Int → Option ((List Int))
 | 0, _, _ => none
 | m + 1, c, a =>
 bif decide ((a : Int) < ((b.length : Int) : Int)) then
 (jn (fun (f : List Int) =>
 zbV b d m f (w64 (a + 1))) fun e =>
 (gi b a).bind fun g =>
 bif g then
 ((apM c [a]).bind fun h =>
 e h)
 else
 (e c))
 else
 (d c a)
def zbW (x0 : Vm.Repo) (b : Int → List Bool → Option ((List Int))) : Nat → Int → List Bool → Option ((List Int))
 | 0, _, _ => none
 | m + 1, a, c =>
 bif decide ((0 : Int) ≤ (a : Int)) then
 (jn (fun (f : Int) (d : List Bool) =>
 zbW x0 b m (w64 (a - 1)) d) fun e =>
 zc0 x0 a e (4) 0 c)
 else
 (b a c)
def zeK (x0 : Vm.Repo) (x1 : Int) : Option ((List Int)) :=
 (mkM (x0.Commits.length : Int) (false : Bool)).bind fun a =>
 (gi a x1).bind fun g =>
 (siM a x1 true).bind fun c =>
 jn (fun (h : Int) (b : List Bool) =>
 jn (fun (d : List Int) (i : Int) =>
 some d) fun e =>
 zbV b e (((b.length : Int) - 0).toNat + 1) ([] : List Int) 0) fun f =>
 zbW x0 f ((x1 + 1 - 0).toNat + 1) x1 c
def zc1 (x0 : List Int) (x1 : Int) (b : Bool → Int → Option (Bool)) : Nat → Bool → Int → Option (Bool)
 | 0, _, _ => none
 | m + 1, c, a =>
 bif decide ((a : Int) < ((x0.length : Int) : Int)) then
 ((gi x0 a).bind fun d =>
 bif ((d : Int) == (x1 : Int)) then
 (some true)
 else
 (zc1 x0 x1 b m c (w64 (a + 1))))
 else
 (b c a)
def zfq (x0 : List Int) (x1 : Int) : Option (Bool) :=
 jn (fun (b : Bool) (c : Int) =>
 some false) fun a =>
 zc1 x0 x1 a (((x0.length : Int) - 0).toNat + 1) false 0
def zc2 (x0 : List Str) (x1 : Str) (b : Int → Option ((List Str))) : Nat → Int → Option ((List Str))
 | 0, _ => none
 | m + 1, a =>
 jn (fun (d : Bool) =>
 bif d then
 (zc2 x0 x1 b m (w64 (a + 1)))
 else
 (b a)) fun c =>
 bif decide ((a : Int) < ((x0.length : Int) : Int)) then
 ((gi x0 a).bind fun e =>
 c (Op.bytesLess e x1))
 else
 (c false)
def zdX (x0 : List Str) (x1 : Str) : Option ((List Str)) :=
 jn (fun (a : Int) =>
 jn (fun (c : Bool) =>
 bif c then
 (some x0)
 else
 ((slM x0 0 a).bind fun d =>
 (apM ([] : List Str) d).bind fun e =>
 (apM e [x1]).bind fun f =>
 (slM x0 a (x0.length : Int)).bind fun g =>
 (apM f g).bind fun h =>
 some h)) fun b =>
 bif decide ((a : Int) < ((x0.length : Int) : Int)) then
 ((gi x0 a).bind fun i =>
 b (i == x1))
 else
 (b false)) fun j =>
 zc2 x0 x1 j (x0.length + 1) 0
def zc3 (x0 : List Vm.File) (x1 : Str) (b : List Str → Bool → Int → Option ((List Str) × Bool)) : Nat → List Str → Bool → Int → Option ((List Str) × Bool)
 | 0, _, _, _ => none
 | m + 1, c, d, a =>
 bif decide ((a : Int) < ((x0.length : Int) : Int)) then
 ((gi x0 a).bind fun e =>
 bif (e.Path == x1) then
 ((gi x0 a).bind fun f =>
 some (f.Text, true))
 else
 (zc3 x0 x1 b m c d (w64 (a + 1))))
 else
 (b c d a)
def zfb (x0 : List Vm.File) (x1 : Str) : Option ((List Str) × Bool) :=
 jn (fun (b : List Str) (c : Bool) (d : Int) =>
 some (([] : List Str), false)) fun a =>
 zc3 x0 x1 a (((x0.length : Int) - 0).toNat + 1) ([] : List Str) false 0
def zcv (x0 : List Str) (x1 : List Str) (b : Bool → Int → Option (Bool)) : Nat → Bool → Int → Option (Bool)
 | 0, _, _ => none
 | m + 1, c, a =>
 bif decide ((a : Int) < ((x0.length : Int) : Int)) then
 ((gi x0 a).bind fun d =>
 (gi x1 a).bind fun e =>
 bif (d != e) then
 (some false)
 else
 (zcv x0 x1 b m c (w64 (a + 1))))
 else
 (b c a)
def zd3 (x0 : List Str) (x1 : List Str) : Option (Bool) :=
 bif (((x0.length : Int) : Int) != ((x1.length : Int) : Int)) then
 (some false)
 else
 (jn (fun (b : Bool) (c : Int) =>
 some true) fun a =>
 zcv x0 x1 a (((x0.length : Int) - 0).toNat + 1) false 0)
def zb1 (x0 : List Str) (x1 : List Str) (b : Int) (e : Int → List (List Int) → Option ((List (List Int)))) : Nat → Int → List (List Int) → Option ((List (List Int)))
 | 0, _, _ => none
 | m + 1, a, c =>
 bif decide ((0 : Int) ≤ (a : Int)) then
 (jn (fun (h : List (List Int)) =>
 zb1 x0 x1 b e m (w64 (a - 1)) h) fun d =>
 (gi x0 b).bind fun i =>
 (gi x1 a).bind fun j =>
 bif (i == j) then
 ((gi c b).bind fun u64 =>
 (gi c (w64 (b + 1))).bind fun k =>
 (gi k (w64 (a + 1))).bind fun l =>
 (gi u64 a).bind fun B =>
 (siM u64 a (w64 (l + 1))).bind fun n =>
 (siM c b n).bind fun o =>
 d o)
 else
 ((gi c (w64 (b + 1))).bind fun p =>
 (gi p a).bind fun q =>
 (gi c b).bind fun r =>
 (gi r (w64 (a + 1))).bind fun s =>
 bif decide ((s : Int) ≤ (q : Int)) then
 ((gi c b).bind fun f =>
 (gi c (w64 (b + 1))).bind fun t =>
 (gi t a).bind fun u =>
 (gi f a).bind fun C =>
 (siM f a u).bind fun v =>
 (siM c b v).bind fun w =>
 d w)
 else
 ((gi c b).bind fun g =>
 (gi c b).bind fun x =>
 (gi x (w64 (a + 1))).bind fun y =>
 (gi g a).bind fun D =>
 (siM g a y).bind fun z =>
 (siM c b z).bind fun A =>
 d A)))
 else
 (e a c)
def zbm (x0 : List Str) (x1 : List Str) (b : Int → List (List Int) → Option ((List (List Int)))) : Nat → Int → List (List Int) → Option ((List (List Int)))
 | 0, _, _ => none
 | m + 1, a, c =>
 bif decide ((0 : Int) ≤ (a : Int)) then
 (jn (fun (f : Int) (d : List (List Int)) =>
 zbm x0 x1 b m (w64 (a - 1)) d) fun e =>
 zb1 x0 x1 a e (((w64 ((x1.length : Int) - 1)) + 1 - 0).toNat + 1) (w64 ((x1.length : Int) - 1)) c)
 else
 (b a c)
def zb2 (x0 : List Str) (x1 : List Str) (b : List (List Int) → Int → Option ((List (List Int)))) : Nat → List (List Int) → Int → Option ((List (List Int)))
 | 0, _, _ => none
 | m + 1, c, a =>
 bif decide ((a : Int) ≤ ((x0.length : Int) : Int)) then
 ((mkM (w64 ((x1.length : Int) + 1)) (0 : Int)).bind fun d =>
 (apM c [d]).bind fun e =>
 zb2 x0 x1 b m e (w64 (a + 1)))
 else
 (b c a)
def zfm (x0 : List Str) (x1 : List Str) : Option ((List (List Int))) :=
 jn (fun (a : List (List Int)) (e : Int) =>
 jn (fun (f : Int) (b : List (List Int)) =>
 some b) fun c =>
 zbm x0 x1 c (((w64 ((x0.length : Int) - 1)) + 1 - 0).toNat + 1) (w64 ((x0.length : Int) - 1)) a) fun d =>
 zb2 x0 x1 d (((x0.length : Int) + 1 - 0).toNat + 1) ([] : List (List Int)) 0
def zcR (x0 : List Str) (x1 : List Str) (c : (List (List Int))) (d : List Int → Int → Int → Option ((List Int))) : Nat → List Int → Int → Int → Option ((List Int))
 | 0, _, _, _ => none
 | m + 1, e, a, b =>
 bif decide ((b : Int) < ((x0.length : Int) : Int)) then
 (jn (fun (h : Bool) =>
 bif h then
 ((apM e [a]).bind fun i =>
 zcR x0 x1 c d m i (w64 (a + 1)) (w64 (b + 1)))
 else
 (jn (fun (j : Bool) =>
 bif j then
 ((apM e [(-1)]).bind fun k =>
 zcR x0 x1 c d m k a (w64 (b + 1)))
 else
 (zcR x0 x1 c d m e (w64 (a + 1)) b)) fun f =>
 bif decide (((x1.length : Int) : Int) ≤ (a : Int)) then
 (f true)
 else
 ((gi c (w64 (b + 1))).bind fun l =>
 (gi l a).bind fun n =>
 (gi c b).bind fun o =>
 (gi o (w64 (a + 1))).bind fun p =>
 f (decide ((p : Int) ≤ (n : Int)))))) fun g =>
 bif decide ((a : Int) < ((x1.length : Int) : Int)) then
 ((gi x0 b).bind fun q =>
 (gi x1 a).bind fun r =>
 g (q == r))
 else
 (g false))
 else
 (d e a b)
def zek (x0 : List Str) (x1 : List Str) : Option ((List Int)) :=
 (Vm.zfm x0 x1).bind fun a =>
 jn (fun (b : List Int) (d : Int) (e : Int) =>
 some b) fun c =>
 zcR x0 x1 a c (x0.length + x1.length + 1) ([] : List Int) 0 0
def zfj (x0 : Int) (x1 : Int) (x2 : Int) : Option (Bool) :=
 jn (fun (b : Bool) =>
 some b) fun a =>
 bif decide ((x1 : Int) ≤ (x0 : Int)) then
 (a (decide ((x0 : Int) ≤ (x2 : Int))))
 else
 (a false)
def zeH (x0 : Byte) : Option (Bool) :=
 jn (fun (b : Bool) =>
 some b) fun a =>
 bif decide ((97 : Int) ≤ ((UInt8.toNat x0 : Int) : Int)) then
 (bif decide (((UInt8.toNat x0 : Int) : Int) ≤ (122 : Int)) then
 (a true)
 else
 (bif decide ((48 : Int) ≤ ((UInt8.toNat x0 : Int) : Int)) then
 (a (decide (((UInt8.toNat x0 : Int) : Int) ≤ (57 : Int))))
 else
 (a false)))
 else
 (bif decide ((48 : Int) ≤ ((UInt8.toNat x0 : Int) : Int)) then
 (a (decide (((UInt8.toNat x0 : Int) : Int) ≤ (57 : Int))))
 else
 (a false))
def zcw (x0 : Str) (b : Bool → Int → Option (Bool)) : Nat → Bool → Int → Option (Bool)
 | 0, _, _ => none
 | m + 1, c, a =>
 bif decide ((a : Int) < ((x0.length : Int) : Int)) then
 ((chM x0 a).bind fun d =>
 (Vm.zeH d).bind fun e =>
 bif (!e) then
 (some false)
 else
 (zcw x0 b m c (w64 (a + 1))))
 else
 (b c a)
def zc4 (x0 : Str) : Option (Bool) :=
 (Vm.zfj (x0.length : Int) 1 6).bind fun a =>
 bif (!a) then
 (some false)
 else
 (jn (fun (c : Bool) (d : Int) =>
 some true) fun b =>
 zcw x0 b (((x0.length : Int) - 0).toNat + 1) false 0)
def zcx (x0 : Str) (b : Bool → Int → Option (Bool)) : Nat → Bool → Int → Option (Bool)
 | 0, _, _ => none
 | m + 1, c, a =>
 bif decide ((a : Int) < ((x0.length : Int) : Int)) then
 (jn (fun (e : Bool) =>
 bif e then
 (some false)
 else
 (zcx x0 b m c (w64 (a + 1)))) fun d =>
 (chM x0 a).bind fun f =>
 bif decide (((UInt8.toNat f : Int) : Int) < (32 : Int)) then
 (d true)
 else
 ((chM x0 a).bind fun g =>
 d (decide ((126 : Int) < ((UInt8.toNat g : Int) : Int)))))
 else
 (b c a)
def zgf (x0 : Str) : Option (Bool) :=
 bif decide ((12 : Int) < ((x0.length : Int) : Int)) then
 (some false)
 else
 (jn (fun (b : Bool) (c : Int) =>
 some true) fun a =>
 zcx x0 a (((x0.length : Int) - 0).toNat + 1) false 0)
def zcy (x0 : List Str) (b : Bool → Int → Option (Bool)) : Nat → Bool → Int → Option (Bool)
 | 0, _, _ => none
 | m + 1, c, a =>
 bif decide ((a : Int) < ((x0.length : Int) : Int)) then
 ((gi x0 a).bind fun d =>
 (Vm.zgf d).bind fun e =>
 bif (!e) then
 (some false)
 else
 (zcy x0 b m c (w64 (a + 1))))
 else
 (b c a)
def zcn (x0 : List Str) : Option (Bool) :=
 bif decide ((10 : Int) < ((x0.length : Int) : Int)) then
 (some false)
 else
 (jn (fun (b : Bool) (c : Int) =>
 some true) fun a =>
 zcy x0 a (((x0.length : Int) - 0).toNat + 1) false 0)
def strings_Split (x0 : Str) (x1 : Str) : Option ((List Str)) :=
 if x0.length ≤ 4294967000 ∧ 1 ≤ x1.length then some (Go.Lib.split x0 x1) else none
def zcz (b : (List Str)) (c : Bool → Int → Option (Bool)) : Nat → Bool → Int → Option (Bool)
 | 0, _, _ => none
 | m + 1, d, a =>
 bif decide ((a : Int) < ((b.length : Int) : Int)) then
 ((gi b a).bind fun e =>
 (Vm.zc4 e).bind fun f =>
 bif (!f) then
 (some false)
 else
 (zcz b c m d (w64 (a + 1))))
 else
 (c d a)
def zeu (x0 : Str) : Option (Bool) :=
 (Vm.strings_Split x0 ([47] : Str)).bind fun a =>
 bif decide ((3 : Int) < ((a.length : Int) : Int)) then
 (some false)
 else
 (jn (fun (c : Bool) (d : Int) =>
 some true) fun b =>
 zcz a b (((a.length : Int) - 0).toNat + 1) false 0)
def strings_HasPrefix (x0 : Str) (x1 : Str) : Option (Bool) :=
 some (Go.Lib.hasPrefix x0 x1)
def zbY (x0 : Str) (x1 : Str) : Option (Bool) :=
 jn (fun (b : Bool) =>
 some b) fun a =>
 (Vm.zeu x0).bind fun c =>
 bif c then
 ((Vm.zeu x1).bind fun d =>
 bif d then
 ((saM x0 ([47] : Str)).bind fun e =>
 (Vm.strings_HasPrefix x1 e).bind fun f =>
 a f)
 else
 (a false))
 else
 (a false)
def zbz (c : Vm.File) (b : List Vm.File) (d : Bool → Int → Option (Bool)) : Nat → Bool → Int → Option (Bool)
 | 0, _, _ => none
 | m + 1, e, a =>
 bif decide ((a : Int) < ((b.length : Int) : Int)) then
 ((gi b a).bind fun f =>
 (Vm.zbY f.Path c.Path).bind fun g =>
 bif g then
 (some false)
 else
 (zbz c b d m e (w64 (a + 1))))
 else
 (d e a)
def zcA (x0 : List Vm.File) (d : Bool → Int → Option (Bool)) : Nat → Bool → Int → Option (Bool)
 | 0, _, _ => none
 | m + 1, e, a =>
 bif decide ((a : Int) < ((x0.length : Int) : Int)) then
 ((gi x0 a).bind fun b =>
 jn (fun (g : Bool) =>
 bif g then
 (some false)
 else
 ((slM x0 0 a).bind fun f =>
 jn (fun (h : Bool) (n : Int) =>
 zcA x0 d m h (w64 (a + 1))) fun i =>
 zbz b f i (((f.length : Int) - 0).toNat + 1) e 0)) fun c =>
 (Vm.zcn b.Text).bind fun j =>
 bif (!j) then
 (c true)
 else
 ((Vm.zeu b.Path).bind fun k =>
 bif (!k) then
 (c true)
 else
 (bif decide ((0 : Int) < (a : Int)) then
 ((gi x0 (w64 (a - 1))).bind fun l =>
 c (!Op.bytesLess l.Path b.Path))
 else
 (c false))))
 else
 (d e a)
def zc5 (x0 : List Vm.File) : Option (Bool) :=
 bif decide ((8 : Int) < ((x0.length : Int) : Int)) then
 (some false)
 else
 (jn (fun (b : Bool) (c : Int) =>
 some true) fun a =>
 zcA x0 a (((x0.length : Int) - 0).toNat + 1) false 0)
def zbZ (x0 : Vm.Repo) (x1 : Int) : Option (Bool) :=
 (Vm.zfj x1 0 (w64 ((x0.Commits.length : Int) - 1))).bind fun a =>
 some a
def zb3 (x0 : Vm.Repo) (x1 : List Vm.Head) (d : Bool → Int → Option (Bool)) : Nat → Bool → Int → Option (Bool)
 | 0, _, _ => none
 | m + 1, e, a =>
 bif decide ((a : Int) < ((x1.length : Int) : Int)) then
 ((gi x1 a).bind fun c =>
 jn (fun (f : Bool) =>
 bif f then
 (some false)
 else
 (zb3 x0 x1 d m e (w64 (a + 1)))) fun b =>
 (Vm.zc4 c.Name).bind fun g =>
 bif (!g) then
 (b true)
 else
 ((Vm.zbZ x0 c.At).bind fun h =>
 bif (!h) then
 (b true)
 else
 (bif decide ((0 : Int) < (a : Int)) then
 ((gi x1 (w64 (a - 1))).bind fun i =>
 b (!Op.bytesLess i.Name c.Name))
 else
 (b false))))
 else
 (d e a)
def zfn (x0 : Vm.Repo) (x1 : List Vm.Head) : Option (Bool) :=
 bif decide ((5 : Int) < ((x1.length : Int) : Int)) then
 (some false)
 else
 (jn (fun (b : Bool) (c : Int) =>
 some true) fun a =>
 zb3 x0 x1 a (((x1.length : Int) - 0).toNat + 1) false 0)
def zbA (c : Int) (b : Vm.Commit) (d : Bool → Int → Option (Bool)) : Nat → Bool → Int → Option (Bool)
 | 0, _, _ => none
 | m + 1, e, a =>
 bif decide ((a : Int) < ((b.Parents.length : Int) : Int)) then
 ((gi b.Parents a).bind fun f =>
 (Vm.zfj f 0 (w64 (c - 1))).bind fun g =>
 bif (!g) then
 (some false)
 else
 (zbA c b d m e (w64 (a + 1))))
 else
 (d e a)
def zcB (x0 : Vm.Repo) (d : Bool → Int → Option (Bool)) : Nat → Bool → Int → Option (Bool)
 | 0, _, _ => none
 | m + 1, e, c =>
 bif decide ((c : Int) < ((x0.Commits.length : Int) : Int)) then
 ((gi x0.Commits c).bind fun a =>
 jn (fun (f : Bool) =>
 bif f then
 (some false)
 else
 (jn (fun (g : Bool) (p : Int) =>
 zcB x0 d m g (w64 (c + 1))) fun h =>
 zbA c a h (((a.Parents.length : Int) - 0).toNat + 1) e 0)) fun b =>
 bif decide ((2 : Int) < ((a.Parents.length : Int) : Int)) then
 (b true)
 else
 (bif (((a.Parents.length : Int) : Int) == (2 : Int)) then
 ((gi a.Parents 0).bind fun i =>
 (gi a.Parents 1).bind fun j =>
 bif ((i : Int) == (j : Int)) then
 (b true)
 else
 ((Vm.zc4 a.Who).bind fun k =>
 bif (!k) then
 (b true)
 else
 ((Vm.zc5 a.Tree).bind fun l =>
 b (!l))))
 else
 ((Vm.zc4 a.Who).bind fun n =>
 bif (!n) then
 (b true)
 else
 ((Vm.zc5 a.Tree).bind fun o =>
 b (!o)))))
 else
 (d e c)
def zeT (x0 : Vm.Repo) : Option (Bool) :=
 bif decide ((16 : Int) < ((x0.Commits.length : Int) : Int)) then
 (some false)
 else
 (jn (fun (c : Bool) (d : Int) =>
 (Vm.zfn x0 x0.Heads).bind fun a =>
 some a) fun b =>
 zcB x0 b (((x0.Commits.length : Int) - 0).toNat + 1) false 0)
def zb4 (x0 : Vm.Repo) (x1 : Str) (b : Int → Int → Option (Int)) : Nat → Int → Int → Option (Int)
 | 0, _, _ => none
 | m + 1, c, a =>
 bif decide ((a : Int) < ((x0.Heads.length : Int) : Int)) then
 ((gi x0.Heads a).bind fun d =>
 bif (d.Name == x1) then
 (some d.At)
 else
 (zb4 x0 x1 b m c (w64 (a + 1))))
 else
 (b c a)
def zcO (x0 : Vm.Repo) (x1 : Str) : Option (Int) :=
 jn (fun (b : Int) (c : Int) =>
 some (-1)) fun a =>
 zb4 x0 x1 a (((x0.Heads.length : Int) - 0).toNat + 1) 0 0
def zcc (x0 : List Str) : Option ((List Str)) :=
 (apM ([] : List Str) x0).bind fun a =>
 some a
def zaX (d : List Bool → Option ((List Bool))) (a : Vm.Commit)  : Nat → Int → List Bool → Option ((List Bool))
 | 0, _, _ => none
 | m + 1, b, c =>
 bif decide ((b : Int) < ((a.Parents.length : Int) : Int)) then
 ((gi a.Parents b).bind fun e =>
 (gi c e).bind fun g =>
 (siM c e true).bind fun f =>
 zaX d a m (w64 (b + 1)) f)
 else
 (d c)
def zaD (x0 : Vm.Repo) (c : Int → List Bool → Option ((List Bool))) : Nat → Int → List Bool → Option ((List Bool))
 | 0, _, _ => none
 | m + 1, a, b =>
 bif decide ((0 : Int) ≤ (a : Int)) then
 (jn (fun (f : List Bool) =>
 zaD x0 c m (w64 (a - 1)) f) fun d =>
 (gi b a).bind fun g =>
 bif g then
 ((gi x0.Commits a).bind fun e =>
 zaX d e (((e.Parents.length : Int) - 0).toNat + 1) 0 b)
 else
 (d b))
 else
 (c a b)
def zaQ (x0 : Vm.Repo) (x1 : Int) : Option ((List Bool)) :=
 (mkM (x0.Commits.length : Int) (false : Bool)).bind fun a =>
 (gi a x1).bind fun e =>
 (siM a x1 true).bind fun b =>
 jn (fun (f : Int) (c : List Bool) =>
 some c) fun d =>
 zaD x0 d ((x1 + 1 - 0).toNat + 1) x1 b
def zcC (x0 : List Bool) (c : List Int → Int → Option ((List Int))) : Nat → List Int → Int → Option ((List Int))
 | 0, _, _ => none
 | m + 1, b, a =>
 bif decide ((a : Int) < ((x0.length : Int) : Int)) then
 (jn (fun (e : List Int) =>
 zcC x0 c m e (w64 (a + 1))) fun d =>
 (gi x0 a).bind fun f =>
 bif f then
 ((apM b [a]).bind fun g =>
 d g)
 else
 (d b))
 else
 (c b a)
def zbg (x0 : List Bool) : Option ((List Int)) :=
 jn (fun (a : List Int) (c : Int) =>
 some a) fun b =>
 zcC x0 b (((x0.length : Int) - 0).toNat + 1) ([] : List Int) 0
def zaN (x0 : Vm.Repo) (x1 : Int) : Option ((List Vm.File)) :=
 bif decide ((x1 : Int) < (0 : Int)) then
 (some ([] : List File))
 else
 ((gi x0.Commits x1).bind fun a =>
 some a.Tree)
def zax (x0 : List Str) : Option ((List Str)) :=
 if x0.length ≤ 4294967296 then some (zcH x0) else none
def zbn (x0 : List Str) : Option ((List Str)) :=
 if x0.length ≤ 4294967296 then some (znp x0) else none
def zcN (x0 : List Vm.File) (x1 : Str) (b : List Str → Bool → Int → Option ((List Str) × Bool)) : Nat → List Str → Bool → Int → Option ((List Str) × Bool)
 | 0, _, _, _ => none
 | m + 1, c, d, a =>
 bif decide ((a : Int) < ((x0.length : Int) : Int)) then
 ((gi x0 a).bind fun e =>
 bif (e.Path == x1) then
 ((Vm.zcc e.Text).bind fun f =>
 some (f, true))
 else
 (zcN x0 x1 b m c d (w64 (a + 1))))
 else
 (b c d a)
def zg8 (x0 : List Vm.File) (x1 : Str) : Option ((List Str) × Bool) :=
 jn (fun (b : List Str) (c : Bool) (d : Int) =>
 some (([] : List Str), false)) fun a =>
 zcN x0 x1 a (((x0.length : Int) - 0).toNat + 1) ([] : List Str) false 0
def zaA (x0 : List Str) (x1 : List Str) (b : Bool → Int → Option (Bool)) : Nat → Bool → Int → Option (Bool)
 | 0, _, _ => none
 | m + 1, c, a =>
 bif decide ((a : Int) < ((x0.length : Int) : Int)) then
 ((gi x0 a).bind fun d =>
 (gi x1 a).bind fun e =>
 bif (d != e) then
 (some false)
 else
 (zaA x0 x1 b m c (w64 (a + 1))))
 else
 (b c a)
def zaH (x0 : List Str) (x1 : List Str) : Option (Bool) :=
 bif (((x0.length : Int) : Int) != ((x1.length : Int) : Int)) then
 (some false)
 else
 (jn (fun (b : Bool) (c : Int) =>
 some true) fun a =>
 zaA x0 x1 a (((x0.length : Int) - 0).toNat + 1) false 0)
def zd4 (x0 : List Str) (x1 : List Str) (b : Int) (d : Int → List (List Int) → Option ((List (List Int)))) : Nat → Int → List (List Int) → Option ((List (List Int)))
 | 0, _, _ => none
 | m + 1, a, c =>
 bif decide ((0 : Int) ≤ (a : Int)) then
 (jn (fun (h : List (List Int)) =>
 zd4 x0 x1 b d m (w64 (a - 1)) h) fun e =>
 (gi x0 b).bind fun i =>
 (gi x1 a).bind fun j =>
 bif (i == j) then
 ((gi c b).bind fun f =>
 (gi c (w64 (b + 1))).bind fun k =>
 (gi k (w64 (a + 1))).bind fun l =>
 (gi f a).bind fun v =>
 (siM f a (w64 (l + 1))).bind fun n =>
 (siM c b n).bind fun o =>
 e o)
 else
 ((gi c b).bind fun g =>
 (gi c (w64 (b + 1))).bind fun p =>
 (gi p a).bind fun q =>
 (gi c b).bind fun r =>
 (gi r (w64 (a + 1))).bind fun s =>
 (gi g a).bind fun w =>
 (siM g a (zrb q s)).bind fun t =>
 (siM c b t).bind fun u =>
 e u))
 else
 (d a c)
def zc6 (x0 : List Str) (x1 : List Str) (b : Int → List (List Int) → Option ((List (List Int)))) : Nat → Int → List (List Int) → Option ((List (List Int)))
 | 0, _, _ => none
 | m + 1, a, c =>
 bif decide ((0 : Int) ≤ (a : Int)) then
 (jn (fun (f : Int) (d : List (List Int)) =>
 zc6 x0 x1 b m (w64 (a - 1)) d) fun e =>
 zd4 x0 x1 a e (((w64 ((x1.length : Int) - 1)) + 1 - 0).toNat + 1) (w64 ((x1.length : Int) - 1)) c)
 else
 (b a c)
def zd5 (x1 : List Str) (c : List (List Int)) (d : Int → List (List Int) → Option ((List (List Int)))) : Nat → Int → List (List Int) → Option ((List (List Int)))
 | 0, _, _ => none
 | m + 1, a, b =>
 bif decide ((a : Int) < ((c.length : Int) : Int)) then
 ((mkM (w64 ((x1.length : Int) + 1)) (0 : Int)).bind fun e =>
 (gi b a).bind fun g =>
 (siM b a e).bind fun f =>
 zd5 x1 c d m (w64 (a + 1)) f)
 else
 (d a b)
def zkO (x0 : List Str) (x1 : List Str) : Option ((List (List Int))) :=
 (mkM (w64 ((x0.length : Int) + 1)) (([] : List Int) : List Int)).bind fun a =>
 jn (fun (f : Int) (b : List (List Int)) =>
 jn (fun (g : Int) (c : List (List Int)) =>
 some c) fun d =>
 zc6 x0 x1 d (((w64 ((x0.length : Int) - 1)) + 1 - 0).toNat + 1) (w64 ((x0.length : Int) - 1)) b) fun e =>
 zd5 x1 a e (((a.length : Int) - 0).toNat + 1) 0 a
def zdS (x0 : List Str) (x1 : List Str) (c : (List (List Int))) (d : List Int → Int → Int → Option ((List Int))) : Nat → List Int → Int → Int → Option ((List Int))
 | 0, _, _, _ => none
 | m + 1, e, b, a =>
 bif decide ((b : Int) < ((x0.length : Int) : Int)) then
 (jn (fun (h : Bool) =>
 bif h then
 ((apM e [a]).bind fun i =>
 zdS x0 x1 c d m i (w64 (b + 1)) (w64 (a + 1)))
 else
 (jn (fun (j : Bool) =>
 bif j then
 ((apM e [(-1)]).bind fun k =>
 zdS x0 x1 c d m k (w64 (b + 1)) a)
 else
 (zdS x0 x1 c d m e b (w64 (a + 1)))) fun f =>
 bif ((a : Int) == ((x1.length : Int) : Int)) then
 (f true)
 else
 ((gi c (w64 (b + 1))).bind fun l =>
 (gi l a).bind fun n =>
 (gi c b).bind fun u64 =>
 (gi u64 (w64 (a + 1))).bind fun o =>
 f (decide ((o : Int) ≤ (n : Int)))))) fun g =>
 bif decide ((a : Int) < ((x1.length : Int) : Int)) then
 ((gi x0 b).bind fun p =>
 (gi x1 a).bind fun q =>
 g (p == q))
 else
 (g false))
 else
 (d e b a)
def zgn (x0 : List Str) (x1 : List Str) : Option ((List Int)) :=
 (Vm.zkO x0 x1).bind fun a =>
 jn (fun (b : List Int) (d : Int) (e : Int) =>
 some b) fun c =>
 zdS x0 x1 a c (x0.length + x1.length + 1) ([] : List Int) 0 0
end Go.Vm
