/- Models of the functions: plain Lean, printed by a program of ours. Conditions: none. -/
import Derived.Test.YtokbhelngoeblaaGreatDoorCLw
import Derived.Test.YtokbhelngoeblaaGreatDoorCM0
namespace Go.Vm
open Go Go.Sx
set_option linter.unusedVariables false
set_option linter.unusedSimpArgs false
def zb7 (x0 : List Vm.Owner) (c : Bool → Int → Option (Bool)) : Nat → Bool → Int → Option (Bool)
 | 0, _, _ => none
 | m + 1, d, a =>
 bif decide ((a : Int) < ((x0.length : Int) : Int)) then
 (jn (fun (g : Bool) =>
 bif g then
 (some false)
 else
 (zb7 x0 c m d (w64 (a + 1)))) fun b =>
 (gi x0 a).bind fun h =>
 (Vm.zcZ h.Path).bind fun i =>
 bif (!i) then
 (b true)
 else
 ((gi x0 a).bind fun j =>
 (Vm.zcm j.Who).bind fun k =>
 bif (!k) then
 (b true)
 else
 (bif decide ((0 : Int) < (a : Int)) then
 ((gi x0 a).bind fun e =>
 (gi x0 (w64 (a - 1))).bind fun f =>
 b (Op.bytesLess e.Path f.Path || e.Path == f.Path))
 else
 (b false))))
 else
 (c d a)
def ze1 (x0 : List Vm.Owner) : Option (Bool) :=
 jn (fun (b : Bool) (c : Int) =>
 some (decide (((x0.length : Int) : Int) ≤ (5 : Int)))) fun a =>
 zb7 x0 a (((x0.length : Int) - 0).toNat + 1) false 0
def zdT (x0 : Vm.Review) (c : Bool → Int → Option (Bool)) : Nat → Bool → Int → Option (Bool)
 | 0, _, _ => none
 | m + 1, d, a =>
 bif decide ((a : Int) < ((x0.Yes.length : Int) : Int)) then
 (jn (fun (g : Bool) =>
 bif g then
 (some false)
 else
 (zdT x0 c m d (w64 (a + 1)))) fun b =>
 (gi x0.Yes a).bind fun h =>
 (Vm.zcm h).bind fun i =>
 bif (!i) then
 (b true)
 else
 (bif decide ((0 : Int) < (a : Int)) then
 ((gi x0.Yes a).bind fun e =>
 (gi x0.Yes (w64 (a - 1))).bind fun f =>
 b (Op.bytesLess e f || e == f))
 else
 (b false)))
 else
 (c d a)
def ziU (x0 : Vm.Review) : Option (Bool) :=
 jn (fun (g : Bool) (h : Int) =>
 jn (fun (b : Bool) =>
 some b) fun a =>
 (Vm.zcm x0.Branch).bind fun c =>
 bif c then
 ((Vm.zcm x0.Into).bind fun d =>
 bif d then
 ((Vm.zcm x0.By).bind fun e =>
 bif e then
 (bif (x0.Branch != x0.Into) then
 (a (decide (((x0.Yes.length : Int) : Int) ≤ (5 : Int))))
 else
 (a false))
 else
 (a false))
 else
 (a false))
 else
 (a false)) fun f =>
 zdT x0 f (((x0.Yes.length : Int) - 0).toNat + 1) false 0
def zcf (x0 : Vm.Repo) (b : List Int) (c : Int) (d : Bool → Int → Option ((List Int))) : Nat → Bool → Int → Option ((List Int))
 | 0, _, _ => none
 | m + 1, e, a =>
 bif decide ((a : Int) < ((b.length : Int) : Int)) then
 (bif e then
 (bif ((a : Int) == (c : Int)) then
 (zcf x0 b c d m true (w64 (a + 1)))
 else
 ((gi b a).bind fun f =>
 (gi b c).bind fun g =>
 (Vm.zeK x0 f).bind fun h =>
 (Vm.zfq h g).bind fun i =>
 zcf x0 b c d m (!i) (w64 (a + 1))))
 else
 (zcf x0 b c d m false (w64 (a + 1))))
 else
 (d e a)
def za6 (x0 : Vm.Repo) (a : List Int) (d : List Int → Int → Option ((List Int))) : Nat → List Int → Int → Option ((List Int))
 | 0, _, _ => none
 | m + 1, c, b =>
 bif decide ((b : Int) < ((a.length : Int) : Int)) then
 (jn (fun (f : List Int) =>
 za6 x0 a d m f (w64 (b + 1))) fun e =>
 jn (fun (g : Bool) (k : Int) =>
 bif g then
 ((gi a b).bind fun h =>
 (apM c [h]).bind fun i =>
 e i)
 else
 (e c)) fun j =>
 zcf x0 a b j (((a.length : Int) - 0).toNat + 1) true 0)
 else
 (d c b)
def zcT (b : (List Int)) (d : (List Int)) (e : List Int → Int → Option ((List Int))) : Nat → List Int → Int → Option ((List Int))
 | 0, _, _ => none
 | m + 1, c, a =>
 bif decide ((a : Int) < ((b.length : Int) : Int)) then
 (jn (fun (g : List Int) =>
 zcT b d e m g (w64 (a + 1))) fun f =>
 (gi b a).bind fun h =>
 (Vm.zfq d h).bind fun i =>
 bif i then
 ((gi b a).bind fun j =>
 (apM c [j]).bind fun k =>
 f k)
 else
 (f c))
 else
 (e c a)
def zgu (x0 : Vm.Repo) (x1 : Int) (x2 : Int) : Option ((List Int)) :=
 (Vm.zeK x0 x1).bind fun a =>
 (Vm.zeK x0 x2).bind fun c =>
 jn (fun (b : List Int) (g : Int) =>
 jn (fun (d : List Int) (h : Int) =>
 some d) fun e =>
 za6 x0 b e (((b.length : Int) - 0).toNat + 1) ([] : List Int) 0) fun f =>
 zcT a c f (((a.length : Int) - 0).toNat + 1) ([] : List Int) 0
def zgV (x0 : Vm.Repo) (x1 : Int) (x2 : Int) : Option ((List Vm.File)) :=
 (Vm.zgu x0 x1 x2).bind fun a =>
 bif (((a.length : Int) : Int) == (0 : Int)) then
 (some ([] : List File))
 else
 ((gi a (w64 ((a.length : Int) - 1))).bind fun b =>
 (gi x0.Commits b).bind fun c =>
 some c.Tree)
def zen (x0 : List Str) (x1 : List Str) (b : List Int) (f : List Vm.Hunk → Int → Int → Int → Option ((List Vm.Hunk))) : Nat → List Vm.Hunk → Int → Int → Int → Option ((List Vm.Hunk))
 | 0, _, _, _, _ => none
 | m + 1, d, c, e, a =>
 bif decide ((a : Int) < ((b.length : Int) : Int)) then
 (jn (fun (j : List Vm.Hunk) (k : Int) (l : Int) =>
 zen x0 x1 b f m j k l (w64 (a + 1))) fun g =>
 (gi b a).bind fun n =>
 bif decide ((n : Int) < (0 : Int)) then
 (g d c e)
 else
 (jn (fun (o : List Vm.Hunk) =>
 (gi b a).bind fun p =>
 g o (w64 (a + 1)) (w64 (p + 1))) fun h =>
 jn (fun (q : Bool) =>
 bif q then
 ((slM x0 c a).bind fun r =>
 (apM ([] : List Str) r).bind fun s =>
 (gi b a).bind fun t =>
 (slM x1 e t).bind fun u =>
 (apM ([] : List Str) u).bind fun v =>
 (apM d [Vm.Hunk.mk c s v]).bind fun w =>
 h w)
 else
 (h d)) fun i =>
 bif decide ((c : Int) < (a : Int)) then
 (i true)
 else
 ((gi b a).bind fun x =>
 i (decide ((e : Int) < (x : Int))))))
 else
 (f d c e a)
def zkj (x0 : List Str) (x1 : List Str) : Option ((List Vm.Hunk)) :=
 (Vm.zek x0 x1).bind fun b =>
 (apM b [(x1.length : Int)]).bind fun a =>
 jn (fun (c : List Vm.Hunk) (e : Int) (f : Int) (g : Int) =>
 some c) fun d =>
 zen x0 x1 a d (((a.length : Int) - 0).toNat + 1) ([] : List Hunk) 0 0 0
def zbu (x1 : List Vm.File) (x3 : List Vm.Change) (b : Int) (c : Bool → Int → Option (Str)) : Nat → Bool → Int → Option (Str)
 | 0, _, _ => none
 | m + 1, d, a =>
 bif decide ((a : Int) < ((x3.length : Int) : Int)) then
 (bif d then
 ((gi x3 a).bind fun e =>
 (gi x1 b).bind fun f =>
 zbu x1 x3 b c m (e.To != f.Path) (w64 (a + 1)))
 else
 (zbu x1 x3 b c m false (w64 (a + 1))))
 else
 (c d a)
def zcp (x0 : List Vm.File) (x1 : List Vm.File) (x2 : List Str) (x3 : List Vm.Change) (c : Str → Int → Option (Str)) : Nat → Str → Int → Option (Str)
 | 0, _, _ => none
 | m + 1, d, a =>
 bif decide ((a : Int) < ((x1.length : Int) : Int)) then
 ((gi x1 a).bind fun e =>
 (Vm.zfb x0 e.Path).bind fun f =>
 jn (fun (g : Bool) (n : Int) =>
 jn (fun (h : Bool) =>
 bif h then
 ((gi x1 a).bind fun i =>
 some i.Path)
 else
 (zcp x0 x1 x2 x3 c m d (w64 (a + 1)))) fun b =>
 bif (!f.2) then
 (bif g then
 ((gi x1 a).bind fun j =>
 (Vm.zd3 j.Text x2).bind fun k =>
 b k)
 else
 (b false))
 else
 (b false)) fun l =>
 zbu x1 x3 a l (((x3.length : Int) - 0).toNat + 1) true 0)
 else
 (c d a)
def zfC (x0 : List Vm.File) (x1 : List Vm.File) (x2 : List Str) (x3 : List Vm.Change) : Option (Str) :=
 jn (fun (b : Str) (c : Int) =>
 some ([] : Str)) fun a =>
 zcp x0 x1 x2 x3 a (((x1.length : Int) - 0).toNat + 1) ([] : Str) 0
def zc9 (x1 : List Vm.File) (b : List Vm.Change) (c : List Vm.Change) (d : Int) (e : Bool → Int → Option ((List Vm.Change))) : Nat → Bool → Int → Option ((List Vm.Change))
 | 0, _, _ => none
 | m + 1, f, a =>
 bif decide ((a : Int) < ((b.length : Int) : Int)) then
 (bif f then
 (zc9 x1 b c d e m true (w64 (a + 1)))
 else
 ((gi c a).bind fun g =>
 (gi x1 d).bind fun h =>
 zc9 x1 b c d e m (g.To == h.Path) (w64 (a + 1))))
 else
 (e f a)
def zbK (x0 : List Vm.File) (x1 : List Vm.File) (c : List Vm.Change) (d : List Vm.Change → Int → Option ((List Vm.Change))) : Nat → List Vm.Change → Int → Option ((List Vm.Change))
 | 0, _, _ => none
 | m + 1, b, a =>
 bif decide ((a : Int) < ((x1.length : Int) : Int)) then
 (jn (fun (g : List Vm.Change) =>
 zbK x0 x1 c d m g (w64 (a + 1))) fun e =>
 (gi x1 a).bind fun h =>
 (Vm.zfb x0 h.Path).bind fun i =>
 jn (fun (j : Bool) (r : Int) =>
 jn (fun (k : Bool) =>
 bif k then
 ((gi x1 a).bind fun l =>
 (gi x1 a).bind fun n =>
 (apM ([] : List Str) n.Text).bind fun o =>
 (apM b ([Vm.Change.mk 1 l.Path ([] : Str) o ([] : List Hunk)])).bind fun p =>
 e p)
 else
 (e b)) fun f =>
 bif (!i.2) then
 (f (!j))
 else
 (f false)) fun q =>
 zc9 x1 c b a q (((c.length : Int) - 0).toNat + 1) false 0)
 else
 (d b a)
def zeo (x0 : List Vm.File) (x1 : List Vm.File) (f : List Vm.Change → Int → Option ((List Vm.Change))) : Nat → List Vm.Change → Int → Option ((List Vm.Change))
 | 0, _, _ => none
 | m + 1, d, a =>
 bif decide ((a : Int) < ((x0.length : Int) : Int)) then
 (jn (fun (j : List Vm.Change) =>
 zeo x0 x1 f m j (w64 (a + 1))) fun e =>
 (gi x0 a).bind fun k =>
 (Vm.zfb x1 k.Path).bind fun b =>
 jn (fun (c : List Vm.Change) =>
 bif b.2 then
 (e c)
 else
 ((gi x0 a).bind fun l =>
 (Vm.zfC x0 x1 l.Text c).bind fun g =>
 bif (g != ([] : Str)) then
 ((gi x0 a).bind fun n =>
 (apM c ([Vm.Change.mk 4 n.Path g ([] : List Str) ([] : List Hunk)])).bind fun o =>
 e o)
 else
 ((gi x0 a).bind fun p =>
 (gi x0 a).bind fun q =>
 (apM ([] : List Str) q.Text).bind fun r =>
 (apM c ([Vm.Change.mk 2 p.Path ([] : Str) r ([] : List Hunk)])).bind fun s =>
 e s))) fun h =>
 jn (fun (t : Bool) =>
 bif t then
 ((gi x0 a).bind fun u =>
 (gi x0 a).bind fun v =>
 (Vm.zkj v.Text b.1).bind fun w =>
 (apM d ([Vm.Change.mk 3 u.Path ([] : Str) ([] : List Str) w])).bind fun x =>
 h x)
 else
 (h d)) fun i =>
 bif b.2 then
 ((gi x0 a).bind fun y =>
 (Vm.zd3 b.1 y.Text).bind fun z =>
 i (!z))
 else
 (i false))
 else
 (f d a)
def zhZ (x0 : List Vm.File) (x1 : List Vm.File) : Option ((List Vm.Change)) :=
 jn (fun (a : List Vm.Change) (e : Int) =>
 jn (fun (b : List Vm.Change) (f : Int) =>
 some b) fun c =>
 zbK x0 x1 a c (((x1.length : Int) - 0).toNat + 1) a 0) fun d =>
 zeo x0 x1 d (((x0.length : Int) - 0).toNat + 1) ([] : List Change) 0
def zep (x0 : List Vm.Hunk) (c : Bool → Int → Option (Bool)) : Nat → Bool → Int → Option (Bool)
 | 0, _, _ => none
 | m + 1, d, a =>
 bif decide ((a : Int) < ((x0.length : Int) : Int)) then
 (jn (fun (e : Bool) =>
 bif e then
 (some false)
 else
 (zep x0 c m d (w64 (a + 1)))) fun b =>
 (gi x0 a).bind fun f =>
 (Vm.zdm f.Less).bind fun g =>
 bif (!g) then
 (b true)
 else
 ((gi x0 a).bind fun h =>
 (Vm.zdm h.More).bind fun i =>
 bif (!i) then
 (b true)
 else
 ((gi x0 a).bind fun j =>
 (gi x0 a).bind fun k =>
 bif ((w64 ((j.Less.length : Int) + (k.More.length : Int)) : Int) == (0 : Int)) then
 (b true)
 else
 ((gi x0 a).bind fun l =>
 (Vm.zeE l.At 0 10).bind fun n =>
 bif (!n) then
 (b true)
 else
 (bif decide ((0 : Int) < (a : Int)) then
 ((gi x0 a).bind fun o =>
 (gi x0 (w64 (a - 1))).bind fun p =>
 (gi x0 (w64 (a - 1))).bind fun q =>
 b (decide ((o.At : Int) ≤ (w64 (p.At + (q.Less.length : Int)) : Int))))
 else
 (b false))))))
 else
 (c d a)
def zkk (x0 : List Vm.Hunk) : Option (Bool) :=
 jn (fun (b : Bool) (c : Int) =>
 some (decide (((x0.length : Int) : Int) ≤ (8 : Int)))) fun a =>
 zep x0 a (((x0.length : Int) - 0).toNat + 1) false 0
def ziV (x0 : Vm.Change) : Option (Bool) :=
 jn (fun (e : Bool) =>
 bif e then
 (jn (fun (f : Bool) =>
 some f) fun c =>
 (Vm.zcZ x0.Path).bind fun g =>
 bif g then
 (bif (x0.To == ([] : Str)) then
 ((Vm.zdm x0.Text).bind fun h =>
 bif h then
 (c (((x0.Patch.length : Int) : Int) == (0 : Int)))
 else
 (c false))
 else
 (c false))
 else
 (c false))
 else
 (bif ((x0.Kind : Int) == (3 : Int)) then
 (jn (fun (i : Bool) =>
 some i) fun a =>
 (Vm.zcZ x0.Path).bind fun j =>
 bif j then
 (bif (x0.To == ([] : Str)) then
 (bif (((x0.Text.length : Int) : Int) == (0 : Int)) then
 (bif decide ((0 : Int) < ((x0.Patch.length : Int) : Int)) then
 ((Vm.zkk x0.Patch).bind fun k =>
 a k)
 else
 (a false))
 else
 (a false))
 else
 (a false))
 else
 (a false))
 else
 (bif ((x0.Kind : Int) == (4 : Int)) then
 (jn (fun (l : Bool) =>
 some l) fun b =>
 (Vm.zcZ x0.Path).bind fun m =>
 bif m then
 ((Vm.zcZ x0.To).bind fun n =>
 bif n then
 (bif (x0.To != x0.Path) then
 (bif (((x0.Text.length : Int) : Int) == (0 : Int)) then
 (b (((x0.Patch.length : Int) : Int) == (0 : Int)))
 else
 (b false))
 else
 (b false))
 else
 (b false))
 else
 (b false))
 else
 (some false)))) fun d =>
 bif ((x0.Kind : Int) == (1 : Int)) then
 (d ((x0.Kind : Int) == (1 : Int)))
 else
 (d ((x0.Kind : Int) == (2 : Int)))
def zdv (x0 : List Vm.Change) (x1 : Str) (b : Bool → Int → Option (Bool)) : Nat → Bool → Int → Option (Bool)
 | 0, _, _ => none
 | m + 1, c, a =>
 bif decide ((a : Int) < ((x0.length : Int) : Int)) then
 (jn (fun (e : Bool) =>
 bif e then
 (some false)
 else
 (zdv x0 x1 b m c (w64 (a + 1)))) fun d =>
 (gi x0 a).bind fun f =>
 bif (f.Path == x1) then
 (d true)
 else
 ((gi x0 a).bind fun g =>
 d (g.To == x1)))
 else
 (b c a)
def zgW (x0 : List Vm.Change) (x1 : Str) : Option (Bool) :=
 jn (fun (b : Bool) (c : Int) =>
 some true) fun a =>
 zdv x0 x1 a (((x0.length : Int) - 0).toNat + 1) false 0
def zeq (x0 : List Vm.Change) (c : Bool → Int → Option (Bool)) : Nat → Bool → Int → Option (Bool)
 | 0, _, _ => none
 | m + 1, d, a =>
 bif decide ((a : Int) < ((x0.length : Int) : Int)) then
 (jn (fun (e : Bool) =>
 bif e then
 (some false)
 else
 (zeq x0 c m d (w64 (a + 1)))) fun b =>
 (gi x0 a).bind fun f =>
 (Vm.ziV f).bind fun g =>
 bif (!g) then
 (b true)
 else
 ((slM x0 0 a).bind fun h =>
 (gi x0 a).bind fun i =>
 (Vm.zgW h i.Path).bind fun j =>
 bif (!j) then
 (b true)
 else
 ((gi x0 a).bind fun k =>
 bif (k.To != ([] : Str)) then
 ((slM x0 0 a).bind fun l =>
 (gi x0 a).bind fun n =>
 (Vm.zgW l n.To).bind fun o =>
 b (!o))
 else
 (b false))))
 else
 (c d a)
def zkl (x0 : List Vm.Change) : Option (Bool) :=
 jn (fun (b : Bool) (c : Int) =>
 some (decide (((x0.length : Int) : Int) ≤ (16 : Int)))) fun a =>
 zeq x0 a (((x0.length : Int) - 0).toNat + 1) false 0
def zbs (x0 : List Vm.Change) (b : List Str → Int → Option ((List Str))) : Nat → List Str → Int → Option ((List Str))
 | 0, _, _ => none
 | m + 1, c, a =>
 bif decide ((a : Int) < ((x0.length : Int) : Int)) then
 (jn (fun (f : List Str) =>
 zbs x0 b m f (w64 (a + 1))) fun d =>
 (gi x0 a).bind fun g =>
 (Vm.zdX c g.Path).bind fun e =>
 (gi x0 a).bind fun h =>
 bif (h.To != ([] : Str)) then
 ((gi x0 a).bind fun i =>
 (Vm.zdX e i.To).bind fun j =>
 d j)
 else
 (d e))
 else
 (b c a)
def zb8 (x0 : List Vm.Change) : Option ((List Str)) :=
 (Vm.zkl x0).bind fun a =>
 bif (!a) then
 (some ([] : List Str))
 else
 (jn (fun (b : List Str) (d : Int) =>
 some b) fun c =>
 zbs x0 c (((x0.length : Int) - 0).toNat + 1) ([] : List Str) 0)
def zjj (x0 : Vm.Repo) (x1 : Vm.Review) : Option ((List Str)) :=
 (Vm.zc8 x0 x1.Into).bind fun b =>
 (Vm.zc8 x0 x1.Branch).bind fun a =>
 (gi x0.Commits a).bind fun c =>
 (Vm.zgV x0 b a).bind fun d =>
 (Vm.zhZ d c.Tree).bind fun e =>
 (Vm.zb8 e).bind fun f =>
 some f
def zdw (x0 : List Vm.Owner) (x1 : Str) (d : Str → Int → Int → Option (Str)) : Nat → Str → Int → Int → Option (Str)
 | 0, _, _, _ => none
 | m + 1, e, b, a =>
 bif decide ((a : Int) < ((x0.length : Int) : Int)) then
 (jn (fun (g : Str) (h : Int) =>
 zdw x0 x1 d m g h (w64 (a + 1))) fun f =>
 jn (fun (i : Bool) =>
 bif i then
 ((gi x0 a).bind fun j =>
 (gi x0 a).bind fun k =>
 f j.Who (k.Path.length : Int))
 else
 (f e b)) fun c =>
 (gi x0 a).bind fun l =>
 bif (l.Path == x1) then
 ((gi x0 a).bind fun n =>
 c (decide ((b : Int) < ((n.Path.length : Int) : Int))))
 else
 ((gi x0 a).bind fun o =>
 (Vm.zhl o.Path x1).bind fun p =>
 bif p then
 ((gi x0 a).bind fun q =>
 c (decide ((b : Int) < ((q.Path.length : Int) : Int))))
 else
 (c false)))
 else
 (d e b a)
def zhP (x0 : List Vm.Owner) (x1 : Str) : Option (Str) :=
 jn (fun (a : Str) (c : Int) (d : Int) =>
 some a) fun b =>
 zdw x0 x1 b (((x0.length : Int) - 0).toNat + 1) ([] : Str) 0 0
def zbJ (x2 : Vm.Review) (b : Str) (c : Bool → Int → Option ((List Str))) : Nat → Bool → Int → Option ((List Str))
 | 0, _, _ => none
 | m + 1, d, a =>
 bif decide ((a : Int) < ((x2.Yes.length : Int) : Int)) then
 (bif d then
 (zbJ x2 b c m true (w64 (a + 1)))
 else
 ((gi x2.Yes a).bind fun e =>
 zbJ x2 b c m (e == b) (w64 (a + 1))))
 else
 (c d a)
def zbT (x1 : List Vm.Owner) (x2 : Vm.Review) (c : (List Str)) (e : List Str → Int → Option ((List Str))) : Nat → List Str → Int → Option ((List Str))
 | 0, _, _ => none
 | m + 1, d, a =>
 bif decide ((a : Int) < ((c.length : Int) : Int)) then
 (jn (fun (h : List Str) =>
 zbT x1 x2 c e m h (w64 (a + 1))) fun f =>
 (gi c a).bind fun i =>
 (Vm.zhP x1 i).bind fun b =>
 jn (fun (j : Bool) =>
 jn (fun (k : Bool) (o : Int) =>
 bif (!k) then
 ((Vm.zdX d b).bind fun l =>
 f l)
 else
 (f d)) fun n =>
 zbJ x2 b n (((x2.Yes.length : Int) - 0).toNat + 1) j 0) fun g =>
 bif (b == ([] : Str)) then
 (g true)
 else
 (g (b == x2.By)))
 else
 (e d a)
def zjT (x0 : Vm.Repo) (x1 : List Vm.Owner) (x2 : Vm.Review) : Option ((List Str)) :=
 (Vm.zjj x0 x2).bind fun a =>
 jn (fun (b : List Str) (d : Int) =>
 some b) fun c =>
 zbT x1 x2 a c (((a.length : Int) - 0).toNat + 1) ([] : List Str) 0
def zdK (x0 : Vm.Repo) (x1 : List Vm.Owner) (x2 : Vm.Review) : Option ((List Str) × Bool) :=
 jn (fun (b : Bool) =>
 bif b then
 (some (([] : List Str), false))
 else
 ((Vm.zjT x0 x1 x2).bind fun c =>
 some (c, true))) fun a =>
 (Vm.zc7 x0).bind fun d =>
 bif (!d) then
 (a true)
 else
 ((Vm.ze1 x1).bind fun e =>
 bif (!e) then
 (a true)
 else
 ((Vm.ziU x2).bind fun f =>
 bif (!f) then
 (a true)
 else
 ((Vm.zc8 x0 x2.Branch).bind fun g =>
 bif decide ((g : Int) < (0 : Int)) then
 (a true)
 else
 ((Vm.zc8 x0 x2.Into).bind fun h =>
 a (decide ((h : Int) < (0 : Int)))))))
def zcq (x0 : List Vm.Owner) (d : Bool → Int → Option (Bool)) : Nat → Bool → Int → Option (Bool)
 | 0, _, _ => none
 | m + 1, e, a =>
 bif decide ((a : Int) < ((x0.length : Int) : Int)) then
 ((gi x0 a).bind fun c =>
 jn (fun (f : Bool) =>
 bif f then
 (some false)
 else
 (zcq x0 d m e (w64 (a + 1)))) fun b =>
 (Vm.zeu c.Path).bind fun g =>
 bif (!g) then
 (b true)
 else
 ((Vm.zc4 c.Who).bind fun h =>
 bif (!h) then
 (b true)
 else
 (bif decide ((0 : Int) < (a : Int)) then
 ((gi x0 (w64 (a - 1))).bind fun i =>
 b (!Op.bytesLess i.Path c.Path))
 else
 (b false))))
 else
 (d e a)
def zfc (x0 : List Vm.Owner) : Option (Bool) :=
 bif decide ((5 : Int) < ((x0.length : Int) : Int)) then
 (some false)
 else
 (jn (fun (b : Bool) (c : Int) =>
 some true) fun a =>
 zcq x0 a (((x0.length : Int) - 0).toNat + 1) false 0)
def zcU (x0 : List Str) (c : Bool → Int → Option (Bool)) : Nat → Bool → Int → Option (Bool)
 | 0, _, _ => none
 | m + 1, d, a =>
 bif decide ((a : Int) < ((x0.length : Int) : Int)) then
 ((gi x0 a).bind fun e =>
 jn (fun (f : Bool) =>
 bif f then
 (some false)
 else
 (zcU x0 c m d (w64 (a + 1)))) fun b =>
 (Vm.zc4 e).bind fun g =>
 bif (!g) then
 (b true)
 else
 (bif decide ((0 : Int) < (a : Int)) then
 ((gi x0 (w64 (a - 1))).bind fun h =>
 b (!Op.bytesLess h e))
 else
 (b false)))
 else
 (c d a)
def zgv (x0 : List Str) : Option (Bool) :=
 jn (fun (b : Bool) (c : Int) =>
 some true) fun a =>
 zcU x0 a (((x0.length : Int) - 0).toNat + 1) false 0
def zfD (x0 : Vm.Review) : Option (Bool) :=
 jn (fun (b : Bool) =>
 some b) fun a =>
 (Vm.zc4 x0.Branch).bind fun c =>
 bif c then
 ((Vm.zc4 x0.Into).bind fun d =>
 bif d then
 ((Vm.zc4 x0.By).bind fun e =>
 bif e then
 (bif (x0.Branch != x0.Into) then
 (bif decide (((x0.Yes.length : Int) : Int) ≤ (5 : Int)) then
 ((Vm.zgv x0.Yes).bind fun f =>
 a f)
 else
 (a false))
 else
 (a false))
 else
 (a false))
 else
 (a false))
 else
 (a false)
def zbl (x0 : List Bool) : Option ((List Bool)) :=
 if x0.length ≤ lim then some x0 else none
def zbQ (e : Int) (c : (List Int)) (f : Int → List Bool → Option ((List Int))) : Nat → Int → List Bool → Option ((List Int))
 | 0, _, _ => none
 | m + 1, a, b =>
 bif decide ((a : Int) < ((c.length : Int) : Int)) then
 (jn (fun (h : List Bool) =>
 zbQ e c f m (w64 (a + 1)) h) fun g =>
 (gi c a).bind fun d =>
 bif ((d : Int) != (e : Int)) then
 ((gi b d).bind fun j =>
 (siM b d false).bind fun i =>
 g i)
 else
 (g b))
 else
 (f a b)
def zaZ (x0 : Vm.Repo) (b : (List Int)) (c : Int → List Bool → Option ((List Int))) : Nat → Int → List Bool → Option ((List Int))
 | 0, _, _ => none
 | m + 1, a, d =>
 bif decide ((a : Int) < ((b.length : Int) : Int)) then
 ((gi b a).bind fun e =>
 (Vm.zaQ x0 e).bind fun g =>
 (Vm.zbg g).bind fun f =>
 jn (fun (j : Int) (h : List Bool) =>
 zaZ x0 b c m (w64 (a + 1)) h) fun i =>
 zbQ e f i (((f.length : Int) - 0).toNat + 1) 0 d)
 else
 (c a d)
def zbE (c : (List Bool)) (d : (List Bool)) (e : List Bool) (f : Int → List Bool → Option ((List Int))) : Nat → Int → List Bool → Option ((List Int))
 | 0, _, _ => none
 | m + 1, a, b =>
 bif decide ((a : Int) < ((e.length : Int) : Int)) then
 ((gi c a).bind fun g =>
 bif g then
 ((gi d a).bind fun h =>
 (gi b a).bind fun k =>
 (siM b a h).bind fun i =>
 zbE c d e f m (w64 (a + 1)) i)
 else
 ((gi b a).bind fun l =>
 (siM b a false).bind fun j =>
 zbE c d e f m (w64 (a + 1)) j))
 else
 (f a b)
def zec (x0 : Vm.Repo) (x1 : Int) (x2 : Int) : Option ((List Int)) :=
 (Vm.zaQ x0 x1).bind fun d =>
 (Vm.zaQ x0 x2).bind fun e =>
 (mkM (x0.Commits.length : Int) (false : Bool)).bind fun a =>
 jn (fun (k : Int) (b : List Bool) =>
 (Vm.zbl b).bind fun f =>
 (Vm.zbg b).bind fun c =>
 jn (fun (l : Int) (g : List Bool) =>
 (Vm.zbg g).bind fun h =>
 some h) fun i =>
 zaZ x0 c i (((c.length : Int) - 0).toNat + 1) 0 f) fun j =>
 zbE d e a j (((a.length : Int) - 0).toNat + 1) 0 a
def zb5 (x0 : Vm.Repo) (x1 : Int) (x2 : Int) : Option ((List Vm.File)) :=
 (Vm.zec x0 x1 x2).bind fun a =>
 bif (((a.length : Int) : Int) == (0 : Int)) then
 (some ([] : List File))
 else
 ((gi a (w64 ((a.length : Int) - 1))).bind fun b =>
 (Vm.zaN x0 b).bind fun c =>
 some c)
def zer (x0 : List Str) (x1 : List Str) (f : List Int) (g : List Vm.Hunk → Int → Int → Int → Option ((List Vm.Hunk))) : Nat → List Vm.Hunk → Int → Int → Int → Option ((List Vm.Hunk))
 | 0, _, _, _, _ => none
 | m + 1, c, b, d, a =>
 bif decide ((a : Int) < ((f.length : Int) : Int)) then
 (jn (fun (k : List Vm.Hunk) (l : Int) (n : Int) =>
 zer x0 x1 f g m k l n (w64 (a + 1))) fun h =>
 (gi f a).bind fun e =>
 bif decide ((e : Int) < (0 : Int)) then
 (h c b d)
 else
 (jn (fun (o : List Vm.Hunk) =>
 h o (w64 (a + 1)) (w64 (e + 1))) fun i =>
 jn (fun (p : Bool) =>
 bif p then
 ((slM x0 b a).bind fun q =>
 (slM x1 d e).bind fun r =>
 (Vm.zcc q).bind fun s =>
 (Vm.zcc r).bind fun t =>
 (apM c [Vm.Hunk.mk b s t]).bind fun u =>
 i u)
 else
 (i c)) fun j =>
 bif decide ((b : Int) < (a : Int)) then
 (j true)
 else
 (j (decide ((d : Int) < (e : Int))))))
 else
 (g c b d a)
def zkm (x0 : List Str) (x1 : List Str) : Option ((List Vm.Hunk)) :=
 (Vm.zgn x0 x1).bind fun b =>
 (apM b [(x1.length : Int)]).bind fun a =>
 jn (fun (c : List Vm.Hunk) (e : Int) (f : Int) (g : Int) =>
 some c) fun d =>
 zer x0 x1 a d (((a.length : Int) - 0).toNat + 1) ([] : List Hunk) 0 0 0
def zay (x0 : List Str) (x1 : Str) (b : Int → Int → Option (Int)) : Nat → Int → Int → Option (Int)
 | 0, _, _ => none
 | m + 1, c, a =>
 bif decide ((a : Int) < ((x0.length : Int) : Int)) then
 ((gi x0 a).bind fun d =>
 bif (x1 == d) then
 (some a)
 else
 (zay x0 x1 b m c (w64 (a + 1))))
 else
 (b c a)
def zbR (x0 : List Str) (x1 : Str) : Option (Int) :=
 jn (fun (b : Int) (c : Int) =>
 some (-1)) fun a =>
 zay x0 x1 a (((x0.length : Int) - 0).toNat + 1) 0 0
def zaU (x0 : List Str) (x1 : Str) : Option (Bool) :=
 (Vm.zbR x0 x1).bind fun a =>
 some (decide ((0 : Int) ≤ (a : Int)))
def zb9 (x0 : List Vm.File) (x1 : List Vm.File) (c : Vm.File) (d : List Str → Int → Str → Str → List Str → List Vm.Hunk → Option ((List Vm.Change)))  : Nat → List Str → Int → Int → Str → Str → List Str → List Vm.Hunk → Option ((List Vm.Change))
 | 0, _, _, _, _, _, _, _ => none
 | m + 1, b, e, g, h, i, j, k =>
 bif decide ((e : Int) < ((x1.length : Int) : Int)) then
 ((gi x1 e).bind fun a =>
 (Vm.zg8 x0 a.Path).bind fun l =>
 jn (fun (n : Bool) =>
 bif n then
 ((apM b [a.Path]).bind fun o =>
 d o 4 c.Path a.Path ([] : List Str) ([] : List Hunk))
 else
 (zb9 x0 x1 c d m b (w64 (e + 1)) g h i j k)) fun f =>
 bif (!l.2) then
 ((Vm.zaH a.Text c.Text).bind fun p =>
 bif p then
 ((Vm.zaU b a.Path).bind fun q =>
 f (!q))
 else
 (f false))
 else
 (f false))
 else
 (d b g h i j k)
def zaO (x0 : List Vm.File) (x1 : List Vm.File) (d : List Str) (e : List Vm.Change → Int → Option ((List Vm.Change))) : Nat → List Vm.Change → Int → Option ((List Vm.Change))
 | 0, _, _ => none
 | m + 1, c, a =>
 bif decide ((a : Int) < ((x1.length : Int) : Int)) then
 (jn (fun (h : List Vm.Change) =>
 zaO x0 x1 d e m h (w64 (a + 1))) fun f =>
 (gi x1 a).bind fun b =>
 (Vm.zg8 x0 b.Path).bind fun i =>
 jn (fun (j : Bool) =>
 bif j then
 ((Vm.zcc b.Text).bind fun k =>
 (apM c ([Vm.Change.mk 1 b.Path ([] : Str) k ([] : List Hunk)])).bind fun l =>
 f l)
 else
 (f c)) fun g =>
 bif (!i.2) then
 ((Vm.zaU d b.Path).bind fun n =>
 g (!n))
 else
 (g false))
 else
 (e c a)
def zca (x0 : List Vm.File) (x1 : List Vm.File) (g : List Vm.Change → List Str → Int → Option ((List Vm.Change))) : Nat → List Vm.Change → List Str → Int → Option ((List Vm.Change))
 | 0, _, _, _ => none
 | m + 1, b, c, d =>
 bif decide ((d : Int) < ((x0.length : Int) : Int)) then
 (jn (fun (i : List Vm.Change) (j : List Str) =>
 zca x0 x1 g m i j (w64 (d + 1))) fun f =>
 (gi x0 d).bind fun a =>
 (Vm.zg8 x1 a.Path).bind fun e =>
 jn (fun (k : Bool) =>
 bif k then
 (f b c)
 else
 (bif e.2 then
 ((Vm.zkm a.Text e.1).bind fun l =>
 (apM b ([Vm.Change.mk 3 a.Path ([] : Str) ([] : List Str) l])).bind fun n =>
 f n c)
 else
 ((Vm.zcc a.Text).bind fun o =>
 jn (fun (p : List Str) (q : Int) (r : Str) (s : Str) (t : List Str) (u : List Vm.Hunk) =>
 (apM b [Vm.Change.mk q r s t u]).bind fun v =>
 f v p) fun w =>
 zb9 x0 x1 a w (((x1.length : Int) - 0).toNat + 1) c 0 2 a.Path ([] : Str) o ([] : List Hunk)))) fun h =>
 bif e.2 then
 ((Vm.zaH e.1 a.Text).bind fun x =>
 h x)
 else
 (h false))
 else
 (g b c d)
def ze2 (x0 : List Vm.File) (x1 : List Vm.File) : Option ((List Vm.Change)) :=
 jn (fun (b : Bool) =>
 bif b then
 (some ([] : List Change))
 else
 (jn (fun (c : List Vm.Change) (d : List Str) (j : Int) =>
 jn (fun (e : List Vm.Change) (k : Int) =>
 some e) fun f =>
 zaO x0 x1 d f (((x1.length : Int) - 0).toNat + 1) c 0) fun g =>
 zca x0 x1 g (((x0.length : Int) - 0).toNat + 1) ([] : List Change) ([] : List Str) 0)) fun a =>
 (Vm.zc5 x0).bind fun h =>
 bif (!h) then
 (a true)
 else
 ((Vm.zc5 x1).bind fun i =>
 a (!i))
def zcV (x0 : List Vm.Change) (c : List Str → Int → Option ((List Str))) : Nat → List Str → Int → Option ((List Str))
 | 0, _, _ => none
 | m + 1, d, a =>
 bif decide ((a : Int) < ((x0.length : Int) : Int)) then
 (jn (fun (g : List Str) =>
 zcV x0 c m g (w64 (a + 1))) fun e =>
 (gi x0 a).bind fun b =>
 (apM d [b.Path]).bind fun f =>
 bif ((b.Kind : Int) == (4 : Int)) then
 ((apM f [b.To]).bind fun h =>
 e h)
 else
 (e f))
 else
 (c d a)
def zgw (x0 : List Vm.Change) : Option ((List Str)) :=
 jn (fun (a : List Str) (d : Int) =>
 (Vm.zax a).bind fun b =>
 some b) fun c =>
 zcV x0 c (((x0.length : Int) - 0).toNat + 1) ([] : List Str) 0
def zcW (x0 : List Vm.Owner) (x1 : Str) (e : Int → Str → Str → Option (Str)) : Nat → Int → Str → Str → Option (Str)
 | 0, _, _, _ => none
 | m + 1, b, c, f =>
 bif decide ((b : Int) < ((x0.length : Int) : Int)) then
 (jn (fun (h : Str) (i : Str) =>
 zcW x0 x1 e m (w64 (b + 1)) h i) fun g =>
 (gi x0 b).bind fun a =>
 jn (fun (j : Bool) =>
 bif j then
 (g a.Path a.Who)
 else
 (g c f)) fun d =>
 bif (a.Path == x1) then
 (d (decide (((c.length : Int) : Int) < ((a.Path.length : Int) : Int))))
 else
 ((Vm.zbY a.Path x1).bind fun k =>
 bif k then
 (d (decide (((c.length : Int) : Int) < ((a.Path.length : Int) : Int))))
 else
 (d false)))
 else
 (e b c f)
def zgx (x0 : List Vm.Owner) (x1 : Str) : Option (Str) :=
 jn (fun (b : Bool) =>
 bif b then
 (some ([] : Str))
 else
 (jn (fun (g : Int) (h : Str) (c : Str) =>
 some c) fun d =>
 zcW x0 x1 d (((x0.length : Int) - 0).toNat + 1) 0 ([] : Str) ([] : Str))) fun a =>
 (Vm.zfc x0).bind fun e =>
 bif (!e) then
 (a true)
 else
 ((Vm.zeu x1).bind fun f =>
 a (!f))
def zgy (x0 : List Str) (x1 : Str) : Option ((List Str)) :=
 (apM ([] : List Str) x0).bind fun a =>
 (apM a [x1]).bind fun b =>
 (Vm.zax b).bind fun c =>
 (Vm.zbn c).bind fun d =>
 some d
def zbe (x1 : List Vm.Owner) (x2 : Vm.Review) (c : (List Str)) (f : List Str → Int → Option ((List Str) × Bool)) : Nat → List Str → Int → Option ((List Str) × Bool)
 | 0, _, _ => none
 | m + 1, d, a =>
 bif decide ((a : Int) < ((c.length : Int) : Int)) then
 (jn (fun (h : List Str) =>
 zbe x1 x2 c f m h (w64 (a + 1))) fun g =>
 (gi c a).bind fun i =>
 (Vm.zgx x1 i).bind fun b =>
 jn (fun (j : Bool) =>
 bif j then
 ((Vm.zgy d b).bind fun k =>
 g k)
 else
 (g d)) fun e =>
 bif (b != ([] : Str)) then
 (bif (b != x2.By) then
 ((Vm.zaU x2.Yes b).bind fun l =>
 e (!l))
 else
 (e false))
 else
 (e false))
 else
 (f d a)
def zbU (x0 : Vm.Repo) (x1 : List Vm.Owner) (x2 : Vm.Review) : Option ((List Str) × Bool) :=
 jn (fun (d : Bool) =>
 bif d then
 (some (([] : List Str), false))
 else
 ((Vm.zcO x0 x2.Branch).bind fun b =>
 (Vm.zcO x0 x2.Into).bind fun e =>
 (Vm.zb5 x0 b e).bind fun f =>
 (Vm.zaN x0 b).bind fun g =>
 (Vm.ze2 f g).bind fun h =>
 (Vm.zgw h).bind fun c =>
 jn (fun (i : List Str) (p : Int) =>
 some (i, true)) fun j =>
 zbe x1 x2 c j (((c.length : Int) - 0).toNat + 1) ([] : List Str) 0)) fun a =>
 (Vm.zeT x0).bind fun k =>
 bif (!k) then
 (a true)
 else
 ((Vm.zfc x1).bind fun l =>
 bif (!l) then
 (a true)
 else
 ((Vm.zfD x2).bind fun m =>
 bif (!m) then
 (a true)
 else
 ((Vm.zcO x0 x2.Branch).bind fun n =>
 bif decide ((n : Int) < (0 : Int)) then
 (a true)
 else
 ((Vm.zcO x0 x2.Into).bind fun o =>
 a (decide ((o : Int) < (0 : Int)))))))
end Go.Vm
