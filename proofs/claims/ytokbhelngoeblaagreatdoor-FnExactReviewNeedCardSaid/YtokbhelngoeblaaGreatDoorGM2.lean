/- Models of the functions: plain Lean, printed by a program of ours. Conditions: none. -/
import Derived.Test.YtokbhelngoeblaaGreatDoorGLw
import Derived.Test.YtokbhelngoeblaaGreatDoorGM0
namespace Go.Vm
open Go Go.Sx
set_option linter.unusedVariables false
set_option linter.unusedSimpArgs false
def zh6 (x0 : Vm.Owner) (x1 : Int) : Option (Int) :=
 bif decide ((w64 (x1 - (x0.Path.length : Int)) : Int) < (0 : Int)) then
 (some (-1))
 else
 (bif decide ((w64 ((w64 (x1 - (x0.Path.length : Int))) - (x0.Who.length : Int)) : Int) < (0 : Int)) then
 (some (-1))
 else
 (some (w64 ((w64 (x1 - (x0.Path.length : Int))) - (x0.Who.length : Int)))))
def zeK (x0 : List Vm.Owner) (b : Int → Int → Int → Option (Int)) : Nat → Int → Int → Int → Option (Int)
 | 0, _, _, _ => none
 | m + 1, c, d, a =>
 bif decide ((a : Int) < ((x0.length : Int) : Int)) then
 ((gi x0 a).bind fun f =>
 (Vm.zh6 f c).bind fun e =>
 bif decide ((e : Int) < (0 : Int)) then
 (some (-1))
 else
 (zeK x0 b m e d (w64 (a + 1))))
 else
 (b c d a)
def zhs (x0 : List Vm.Owner) (x1 : Int) : Option (Int) :=
 bif decide ((w64 (x1 - (x0.length : Int)) : Int) < (0 : Int)) then
 (some (-1))
 else
 (jn (fun (a : Int) (c : Int) (d : Int) =>
 some a) fun b =>
 zeK x0 b (((x0.length : Int) - 0).toNat + 1) (w64 (x1 - (x0.length : Int))) 0 0)
def zht (x0 : Vm.Review) (x1 : Int) : Option (Int) :=
 bif decide ((w64 (x1 - (x0.Branch.length : Int)) : Int) < (0 : Int)) then
 (some (-1))
 else
 (bif decide ((w64 ((w64 (x1 - (x0.Branch.length : Int))) - (x0.Into.length : Int)) : Int) < (0 : Int)) then
 (some (-1))
 else
 (bif decide ((w64 ((w64 ((w64 (x1 - (x0.Branch.length : Int))) - (x0.Into.length : Int))) - (x0.By.length : Int)) : Int) < (0 : Int)) then
 (some (-1))
 else
 ((Vm.zed x0.Yes (w64 ((w64 ((w64 (x1 - (x0.Branch.length : Int))) - (x0.Into.length : Int))) - (x0.By.length : Int)))).bind fun a =>
 bif decide ((a : Int) < (0 : Int)) then
 (some (-1))
 else
 (some a))))
def zh7 (x0 : Vm.Owner) : Option (Vm.Owner) :=
 some (Vm.Owner.mk x0.Path x0.Who)
def zeL (x0 : List Vm.Owner) (c : Int → List Vm.Owner → Option ((List Vm.Owner))) : Nat → Int → List Vm.Owner → Option ((List Vm.Owner))
 | 0, _, _ => none
 | m + 1, a, b =>
 bif decide ((a : Int) < ((x0.length : Int) : Int)) then
 ((gi x0 a).bind fun d =>
 (Vm.zh7 d).bind fun e =>
 (gi b a).bind fun g =>
 (siM b a e).bind fun f =>
 zeL x0 c m (w64 (a + 1)) f)
 else
 (c a b)
def zeU (x0 : List Vm.Owner) : Option ((List Vm.Owner)) :=
 (mkM (x0.length : Int) (Vm.Owner.mk ([] : Str) ([] : Str) : Owner)).bind fun a =>
 jn (fun (d : Int) (b : List Vm.Owner) =>
 some b) fun c =>
 zeL x0 c (((x0.length : Int) - 0).toNat + 1) 0 a
def zeV (x0 : Vm.Review) : Option (Vm.Review) :=
 (Vm.zee x0.Yes).bind fun a =>
 some (Vm.Review.mk x0.Branch x0.Into x0.By a)
def zcs (x0 : List Vm.Owner) (c : Bool → Int → Option (Bool)) : Nat → Bool → Int → Option (Bool)
 | 0, _, _ => none
 | m + 1, d, a =>
 bif decide ((a : Int) < ((x0.length : Int) : Int)) then
 (jn (fun (g : Bool) =>
 bif g then
 (some false)
 else
 (zcs x0 c m d (w64 (a + 1)))) fun b =>
 (gi x0 a).bind fun h =>
 (Vm.zdh h.Path).bind fun i =>
 bif (!i) then
 (b true)
 else
 ((gi x0 a).bind fun j =>
 (Vm.zcH j.Who).bind fun k =>
 bif (!k) then
 (b true)
 else
 (bif decide ((0 : Int) < (a : Int)) then
 ((gi x0 a).bind fun e =>
 (gi x0 (w64 (a - 1))).bind fun f =>
 b (Op.bytesLess e.Path f.Path || e.Path == f.Path))
 else
 (b false))))
 else
 (c d a)
def ze3 (x0 : List Vm.Owner) : Option (Bool) :=
 jn (fun (b : Bool) (c : Int) =>
 some (decide (((x0.length : Int) : Int) ≤ (5 : Int)))) fun a =>
 zcs x0 a (((x0.length : Int) - 0).toNat + 1) false 0
def zej (x0 : Vm.Review) (c : Bool → Int → Option (Bool)) : Nat → Bool → Int → Option (Bool)
 | 0, _, _ => none
 | m + 1, d, a =>
 bif decide ((a : Int) < ((x0.Yes.length : Int) : Int)) then
 (jn (fun (g : Bool) =>
 bif g then
 (some false)
 else
 (zej x0 c m d (w64 (a + 1)))) fun b =>
 (gi x0.Yes a).bind fun h =>
 (Vm.zcH h).bind fun i =>
 bif (!i) then
 (b true)
 else
 (bif decide ((0 : Int) < (a : Int)) then
 ((gi x0.Yes a).bind fun e =>
 (gi x0.Yes (w64 (a - 1))).bind fun f =>
 b (Op.bytesLess e f || e == f))
 else
 (b false)))
 else
 (c d a)
def zh8 (x0 : Vm.Review) : Option (Bool) :=
 jn (fun (g : Bool) (h : Int) =>
 jn (fun (b : Bool) =>
 some b) fun a =>
 (Vm.zcH x0.Branch).bind fun c =>
 bif c then
 ((Vm.zcH x0.Into).bind fun d =>
 bif d then
 ((Vm.zcH x0.By).bind fun e =>
 bif e then
 (bif (x0.Branch != x0.Into) then
 (a (decide (((x0.Yes.length : Int) : Int) ≤ (5 : Int))))
 else
 (a false))
 else
 (a false))
 else
 (a false))
 else
 (a false)) fun f =>
 zej x0 f (((x0.Yes.length : Int) - 0).toNat + 1) false 0
def zcc (x0 : Vm.Repo) (b : List Int) (c : Int) (d : Bool → Int → Option ((List Int))) : Nat → Bool → Int → Option ((List Int))
 | 0, _, _ => none
 | m + 1, e, a =>
 bif decide ((a : Int) < ((b.length : Int) : Int)) then
 (bif e then
 (bif ((a : Int) == (c : Int)) then
 (zcc x0 b c d m true (w64 (a + 1)))
 else
 ((gi b a).bind fun f =>
 (gi b c).bind fun g =>
 (Vm.zeC x0 f).bind fun h =>
 (Vm.zfn h g).bind fun i =>
 zcc x0 b c d m (!i) (w64 (a + 1))))
 else
 (zcc x0 b c d m false (w64 (a + 1))))
 else
 (d e a)
def zbk (x0 : Vm.Repo) (a : List Int) (d : List Int → Int → Option ((List Int))) : Nat → List Int → Int → Option ((List Int))
 | 0, _, _ => none
 | m + 1, c, b =>
 bif decide ((b : Int) < ((a.length : Int) : Int)) then
 (jn (fun (f : List Int) =>
 zbk x0 a d m f (w64 (b + 1))) fun e =>
 jn (fun (g : Bool) (k : Int) =>
 bif g then
 ((gi a b).bind fun h =>
 (apM c [h]).bind fun i =>
 e i)
 else
 (e c)) fun j =>
 zcc x0 a b j (((a.length : Int) - 0).toNat + 1) true 0)
 else
 (d c b)
def zc8 (b : (List Int)) (d : (List Int)) (e : List Int → Int → Option ((List Int))) : Nat → List Int → Int → Option ((List Int))
 | 0, _, _ => none
 | m + 1, c, a =>
 bif decide ((a : Int) < ((b.length : Int) : Int)) then
 (jn (fun (g : List Int) =>
 zc8 b d e m g (w64 (a + 1))) fun f =>
 (gi b a).bind fun h =>
 (Vm.zfn d h).bind fun i =>
 bif i then
 ((gi b a).bind fun j =>
 (apM c [j]).bind fun k =>
 f k)
 else
 (f c))
 else
 (e c a)
def zf5 (x0 : Vm.Repo) (x1 : Int) (x2 : Int) : Option ((List Int)) :=
 (Vm.zeC x0 x1).bind fun a =>
 (Vm.zeC x0 x2).bind fun c =>
 jn (fun (b : List Int) (g : Int) =>
 jn (fun (d : List Int) (h : Int) =>
 some d) fun e =>
 zbk x0 b e (((b.length : Int) - 0).toNat + 1) ([] : List Int) 0) fun f =>
 zc8 a c f (((a.length : Int) - 0).toNat + 1) ([] : List Int) 0
def zhc (x0 : Vm.Repo) (x1 : Int) (x2 : Int) : Option ((List Vm.File)) :=
 (Vm.zf5 x0 x1 x2).bind fun a =>
 bif (((a.length : Int) : Int) == (0 : Int)) then
 (some ([] : List File))
 else
 ((gi a (w64 ((a.length : Int) - 1))).bind fun b =>
 (gi x0.Commits b).bind fun c =>
 some c.Tree)
def ze4 (x0 : List Str) (x1 : List Str) (b : List Int) (f : List Vm.Hunk → Int → Int → Int → Option ((List Vm.Hunk))) : Nat → List Vm.Hunk → Int → Int → Int → Option ((List Vm.Hunk))
 | 0, _, _, _, _ => none
 | m + 1, d, c, e, a =>
 bif decide ((a : Int) < ((b.length : Int) : Int)) then
 (jn (fun (j : List Vm.Hunk) (k : Int) (l : Int) =>
 ze4 x0 x1 b f m j k l (w64 (a + 1))) fun g =>
 (gi b a).bind fun n =>
 bif decide ((n : Int) < (0 : Int)) then
 (g d c e)
 else
 (jn (fun (o : List Vm.Hunk) =>
 (gi b a).bind fun p =>
 g o (w64 (a + 1)) (w64 (p + 1))) fun h =>
 jn (fun (q : Bool) =>
 bif q then
 ((slM x0 c a).bind fun r =>
 (apM ([] : List Str) r).bind fun s =>
 (gi b a).bind fun t =>
 (slM x1 e t).bind fun u =>
 (apM ([] : List Str) u).bind fun v =>
 (apM d [Vm.Hunk.mk c s v]).bind fun w =>
 h w)
 else
 (h d)) fun i =>
 bif decide ((c : Int) < (a : Int)) then
 (i true)
 else
 ((gi b a).bind fun x =>
 i (decide ((e : Int) < (x : Int))))))
 else
 (f d c e a)
def zjt (x0 : List Str) (x1 : List Str) : Option ((List Vm.Hunk)) :=
 (Vm.zdT x0 x1).bind fun b =>
 (apM b [(x1.length : Int)]).bind fun a =>
 jn (fun (c : List Vm.Hunk) (e : Int) (f : Int) (g : Int) =>
 some c) fun d =>
 ze4 x0 x1 a d (((a.length : Int) - 0).toNat + 1) ([] : List Hunk) 0 0 0
def zbD (x1 : List Vm.File) (x3 : List Vm.Change) (b : Int) (c : Bool → Int → Option (Str)) : Nat → Bool → Int → Option (Str)
 | 0, _, _ => none
 | m + 1, d, a =>
 bif decide ((a : Int) < ((x3.length : Int) : Int)) then
 (bif d then
 ((gi x3 a).bind fun e =>
 (gi x1 b).bind fun f =>
 zbD x1 x3 b c m (e.To != f.Path) (w64 (a + 1)))
 else
 (zbD x1 x3 b c m false (w64 (a + 1))))
 else
 (c d a)
def zcQ (x0 : List Vm.File) (x1 : List Vm.File) (x2 : List Str) (x3 : List Vm.Change) (c : Str → Int → Option (Str)) : Nat → Str → Int → Option (Str)
 | 0, _, _ => none
 | m + 1, d, a =>
 bif decide ((a : Int) < ((x1.length : Int) : Int)) then
 ((gi x1 a).bind fun e =>
 (Vm.zd4 x0 e.Path).bind fun f =>
 jn (fun (g : Bool) (n : Int) =>
 jn (fun (h : Bool) =>
 bif h then
 ((gi x1 a).bind fun i =>
 some i.Path)
 else
 (zcQ x0 x1 x2 x3 c m d (w64 (a + 1)))) fun b =>
 bif (!f.2) then
 (bif g then
 ((gi x1 a).bind fun j =>
 (Vm.zdi j.Text x2).bind fun k =>
 b k)
 else
 (b false))
 else
 (b false)) fun l =>
 zbD x1 x3 a l (((x3.length : Int) - 0).toNat + 1) true 0)
 else
 (c d a)
def zfA (x0 : List Vm.File) (x1 : List Vm.File) (x2 : List Str) (x3 : List Vm.Change) : Option (Str) :=
 jn (fun (b : Str) (c : Int) =>
 some ([] : Str)) fun a =>
 zcQ x0 x1 x2 x3 a (((x1.length : Int) - 0).toNat + 1) ([] : Str) 0
def zdw (x1 : List Vm.File) (b : List Vm.Change) (c : List Vm.Change) (d : Int) (e : Bool → Int → Option ((List Vm.Change))) : Nat → Bool → Int → Option ((List Vm.Change))
 | 0, _, _ => none
 | m + 1, f, a =>
 bif decide ((a : Int) < ((b.length : Int) : Int)) then
 (bif f then
 (zdw x1 b c d e m true (w64 (a + 1)))
 else
 ((gi c a).bind fun g =>
 (gi x1 d).bind fun h =>
 zdw x1 b c d e m (g.To == h.Path) (w64 (a + 1))))
 else
 (e f a)
def zcA (x0 : List Vm.File) (x1 : List Vm.File) (c : List Vm.Change) (d : List Vm.Change → Int → Option ((List Vm.Change))) : Nat → List Vm.Change → Int → Option ((List Vm.Change))
 | 0, _, _ => none
 | m + 1, b, a =>
 bif decide ((a : Int) < ((x1.length : Int) : Int)) then
 (jn (fun (g : List Vm.Change) =>
 zcA x0 x1 c d m g (w64 (a + 1))) fun e =>
 (gi x1 a).bind fun h =>
 (Vm.zd4 x0 h.Path).bind fun i =>
 jn (fun (j : Bool) (r : Int) =>
 jn (fun (k : Bool) =>
 bif k then
 ((gi x1 a).bind fun l =>
 (gi x1 a).bind fun n =>
 (apM ([] : List Str) n.Text).bind fun o =>
 (apM b ([Vm.Change.mk 1 l.Path ([] : Str) o ([] : List Hunk)])).bind fun p =>
 e p)
 else
 (e b)) fun f =>
 bif (!i.2) then
 (f (!j))
 else
 (f false)) fun q =>
 zdw x1 c b a q (((c.length : Int) - 0).toNat + 1) false 0)
 else
 (d b a)
def ze5 (x0 : List Vm.File) (x1 : List Vm.File) (f : List Vm.Change → Int → Option ((List Vm.Change))) : Nat → List Vm.Change → Int → Option ((List Vm.Change))
 | 0, _, _ => none
 | m + 1, d, a =>
 bif decide ((a : Int) < ((x0.length : Int) : Int)) then
 (jn (fun (j : List Vm.Change) =>
 ze5 x0 x1 f m j (w64 (a + 1))) fun e =>
 (gi x0 a).bind fun k =>
 (Vm.zd4 x1 k.Path).bind fun b =>
 jn (fun (c : List Vm.Change) =>
 bif b.2 then
 (e c)
 else
 ((gi x0 a).bind fun l =>
 (Vm.zfA x0 x1 l.Text c).bind fun g =>
 bif (g != ([] : Str)) then
 ((gi x0 a).bind fun n =>
 (apM c ([Vm.Change.mk 4 n.Path g ([] : List Str) ([] : List Hunk)])).bind fun o =>
 e o)
 else
 ((gi x0 a).bind fun p =>
 (gi x0 a).bind fun q =>
 (apM ([] : List Str) q.Text).bind fun r =>
 (apM c ([Vm.Change.mk 2 p.Path ([] : Str) r ([] : List Hunk)])).bind fun s =>
 e s))) fun h =>
 jn (fun (t : Bool) =>
 bif t then
 ((gi x0 a).bind fun u =>
 (gi x0 a).bind fun v =>
 (Vm.zjt v.Text b.1).bind fun w =>
 (apM d ([Vm.Change.mk 3 u.Path ([] : Str) ([] : List Str) w])).bind fun x =>
 h x)
 else
 (h d)) fun i =>
 bif b.2 then
 ((gi x0 a).bind fun y =>
 (Vm.zdi b.1 y.Text).bind fun z =>
 i (!z))
 else
 (i false))
 else
 (f d a)
def zhG (x0 : List Vm.File) (x1 : List Vm.File) : Option ((List Vm.Change)) :=
 jn (fun (a : List Vm.Change) (e : Int) =>
 jn (fun (b : List Vm.Change) (f : Int) =>
 some b) fun c =>
 zcA x0 x1 a c (((x1.length : Int) - 0).toNat + 1) a 0) fun d =>
 ze5 x0 x1 d (((x0.length : Int) - 0).toNat + 1) ([] : List Change) 0
def ze6 (x0 : List Vm.Hunk) (c : Bool → Int → Option (Bool)) : Nat → Bool → Int → Option (Bool)
 | 0, _, _ => none
 | m + 1, d, a =>
 bif decide ((a : Int) < ((x0.length : Int) : Int)) then
 (jn (fun (e : Bool) =>
 bif e then
 (some false)
 else
 (ze6 x0 c m d (w64 (a + 1)))) fun b =>
 (gi x0 a).bind fun f =>
 (Vm.zdq f.Less).bind fun g =>
 bif (!g) then
 (b true)
 else
 ((gi x0 a).bind fun h =>
 (Vm.zdq h.More).bind fun i =>
 bif (!i) then
 (b true)
 else
 ((gi x0 a).bind fun j =>
 (gi x0 a).bind fun k =>
 bif ((w64 ((j.Less.length : Int) + (k.More.length : Int)) : Int) == (0 : Int)) then
 (b true)
 else
 ((gi x0 a).bind fun l =>
 (Vm.zeP l.At 0 10).bind fun n =>
 bif (!n) then
 (b true)
 else
 (bif decide ((0 : Int) < (a : Int)) then
 ((gi x0 a).bind fun o =>
 (gi x0 (w64 (a - 1))).bind fun p =>
 (gi x0 (w64 (a - 1))).bind fun q =>
 b (decide ((o.At : Int) ≤ (w64 (p.At + (q.Less.length : Int)) : Int))))
 else
 (b false))))))
 else
 (c d a)
def zju (x0 : List Vm.Hunk) : Option (Bool) :=
 jn (fun (b : Bool) (c : Int) =>
 some (decide (((x0.length : Int) : Int) ≤ (8 : Int)))) fun a =>
 ze6 x0 a (((x0.length : Int) - 0).toNat + 1) false 0
def zh9 (x0 : Vm.Change) : Option (Bool) :=
 jn (fun (e : Bool) =>
 bif e then
 (jn (fun (f : Bool) =>
 some f) fun c =>
 (Vm.zdh x0.Path).bind fun g =>
 bif g then
 (bif (x0.To == ([] : Str)) then
 ((Vm.zdq x0.Text).bind fun h =>
 bif h then
 (c (((x0.Patch.length : Int) : Int) == (0 : Int)))
 else
 (c false))
 else
 (c false))
 else
 (c false))
 else
 (bif ((x0.Kind : Int) == (3 : Int)) then
 (jn (fun (i : Bool) =>
 some i) fun a =>
 (Vm.zdh x0.Path).bind fun j =>
 bif j then
 (bif (x0.To == ([] : Str)) then
 (bif (((x0.Text.length : Int) : Int) == (0 : Int)) then
 (bif decide ((0 : Int) < ((x0.Patch.length : Int) : Int)) then
 ((Vm.zju x0.Patch).bind fun k =>
 a k)
 else
 (a false))
 else
 (a false))
 else
 (a false))
 else
 (a false))
 else
 (bif ((x0.Kind : Int) == (4 : Int)) then
 (jn (fun (l : Bool) =>
 some l) fun b =>
 (Vm.zdh x0.Path).bind fun m =>
 bif m then
 ((Vm.zdh x0.To).bind fun n =>
 bif n then
 (bif (x0.To != x0.Path) then
 (bif (((x0.Text.length : Int) : Int) == (0 : Int)) then
 (b (((x0.Patch.length : Int) : Int) == (0 : Int)))
 else
 (b false))
 else
 (b false))
 else
 (b false))
 else
 (b false))
 else
 (some false)))) fun d =>
 bif ((x0.Kind : Int) == (1 : Int)) then
 (d ((x0.Kind : Int) == (1 : Int)))
 else
 (d ((x0.Kind : Int) == (2 : Int)))
def zdG (x0 : List Vm.Change) (x1 : Str) (b : Bool → Int → Option (Bool)) : Nat → Bool → Int → Option (Bool)
 | 0, _, _ => none
 | m + 1, c, a =>
 bif decide ((a : Int) < ((x0.length : Int) : Int)) then
 (jn (fun (e : Bool) =>
 bif e then
 (some false)
 else
 (zdG x0 x1 b m c (w64 (a + 1)))) fun d =>
 (gi x0 a).bind fun f =>
 bif (f.Path == x1) then
 (d true)
 else
 ((gi x0 a).bind fun g =>
 d (g.To == x1)))
 else
 (b c a)
def zgi (x0 : List Vm.Change) (x1 : Str) : Option (Bool) :=
 jn (fun (b : Bool) (c : Int) =>
 some true) fun a =>
 zdG x0 x1 a (((x0.length : Int) - 0).toNat + 1) false 0
def ze7 (x0 : List Vm.Change) (c : Bool → Int → Option (Bool)) : Nat → Bool → Int → Option (Bool)
 | 0, _, _ => none
 | m + 1, d, a =>
 bif decide ((a : Int) < ((x0.length : Int) : Int)) then
 (jn (fun (e : Bool) =>
 bif e then
 (some false)
 else
 (ze7 x0 c m d (w64 (a + 1)))) fun b =>
 (gi x0 a).bind fun f =>
 (Vm.zh9 f).bind fun g =>
 bif (!g) then
 (b true)
 else
 ((slM x0 0 a).bind fun h =>
 (gi x0 a).bind fun i =>
 (Vm.zgi h i.Path).bind fun j =>
 bif (!j) then
 (b true)
 else
 ((gi x0 a).bind fun k =>
 bif (k.To != ([] : Str)) then
 ((slM x0 0 a).bind fun l =>
 (gi x0 a).bind fun n =>
 (Vm.zgi l n.To).bind fun o =>
 b (!o))
 else
 (b false))))
 else
 (c d a)
def zjv (x0 : List Vm.Change) : Option (Bool) :=
 jn (fun (b : Bool) (c : Int) =>
 some (decide (((x0.length : Int) : Int) ≤ (16 : Int)))) fun a =>
 ze7 x0 a (((x0.length : Int) - 0).toNat + 1) false 0
def zbz (x0 : List Vm.Change) (b : List Str → Int → Option ((List Str))) : Nat → List Str → Int → Option ((List Str))
 | 0, _, _ => none
 | m + 1, c, a =>
 bif decide ((a : Int) < ((x0.length : Int) : Int)) then
 (jn (fun (f : List Str) =>
 zbz x0 b m f (w64 (a + 1))) fun d =>
 (gi x0 a).bind fun g =>
 (Vm.zdu c g.Path).bind fun e =>
 (gi x0 a).bind fun h =>
 bif (h.To != ([] : Str)) then
 ((gi x0 a).bind fun i =>
 (Vm.zdu e i.To).bind fun j =>
 d j)
 else
 (d e))
 else
 (b c a)
def zct (x0 : List Vm.Change) : Option ((List Str)) :=
 (Vm.zjv x0).bind fun a =>
 bif (!a) then
 (some ([] : List Str))
 else
 (jn (fun (b : List Str) (d : Int) =>
 some b) fun c =>
 zbz x0 c (((x0.length : Int) - 0).toNat + 1) ([] : List Str) 0)
def zhu (x0 : Vm.Repo) (x1 : Vm.Review) : Option ((List Str)) :=
 (Vm.zeQ x0 x1.Into).bind fun b =>
 (Vm.zeQ x0 x1.Branch).bind fun a =>
 (gi x0.Commits a).bind fun c =>
 (Vm.zhc x0 b a).bind fun d =>
 (Vm.zhG d c.Tree).bind fun e =>
 (Vm.zct e).bind fun f =>
 some f
def zdH (x0 : List Vm.Owner) (x1 : Str) (d : Str → Int → Int → Option (Str)) : Nat → Str → Int → Int → Option (Str)
 | 0, _, _, _ => none
 | m + 1, e, b, a =>
 bif decide ((a : Int) < ((x0.length : Int) : Int)) then
 (jn (fun (g : Str) (h : Int) =>
 zdH x0 x1 d m g h (w64 (a + 1))) fun f =>
 jn (fun (i : Bool) =>
 bif i then
 ((gi x0 a).bind fun j =>
 (gi x0 a).bind fun k =>
 f j.Who (k.Path.length : Int))
 else
 (f e b)) fun c =>
 (gi x0 a).bind fun l =>
 bif (l.Path == x1) then
 ((gi x0 a).bind fun n =>
 c (decide ((b : Int) < ((n.Path.length : Int) : Int))))
 else
 ((gi x0 a).bind fun o =>
 (Vm.zg4 o.Path x1).bind fun p =>
 bif p then
 ((gi x0 a).bind fun q =>
 c (decide ((b : Int) < ((q.Path.length : Int) : Int))))
 else
 (c false)))
 else
 (d e b a)
def zhd (x0 : List Vm.Owner) (x1 : Str) : Option (Str) :=
 jn (fun (a : Str) (c : Int) (d : Int) =>
 some a) fun b =>
 zdH x0 x1 b (((x0.length : Int) - 0).toNat + 1) ([] : Str) 0 0
def zbU (x2 : Vm.Review) (b : Str) (c : Bool → Int → Option ((List Str))) : Nat → Bool → Int → Option ((List Str))
 | 0, _, _ => none
 | m + 1, d, a =>
 bif decide ((a : Int) < ((x2.Yes.length : Int) : Int)) then
 (bif d then
 (zbU x2 b c m true (w64 (a + 1)))
 else
 ((gi x2.Yes a).bind fun e =>
 zbU x2 b c m (e == b) (w64 (a + 1))))
 else
 (c d a)
def zcd (x1 : List Vm.Owner) (x2 : Vm.Review) (c : (List Str)) (e : List Str → Int → Option ((List Str))) : Nat → List Str → Int → Option ((List Str))
 | 0, _, _ => none
 | m + 1, d, a =>
 bif decide ((a : Int) < ((c.length : Int) : Int)) then
 (jn (fun (h : List Str) =>
 zcd x1 x2 c e m h (w64 (a + 1))) fun f =>
 (gi c a).bind fun i =>
 (Vm.zhd x1 i).bind fun b =>
 jn (fun (j : Bool) =>
 jn (fun (k : Bool) (o : Int) =>
 bif (!k) then
 ((Vm.zdu d b).bind fun l =>
 f l)
 else
 (f d)) fun n =>
 zbU x2 b n (((x2.Yes.length : Int) - 0).toNat + 1) j 0) fun g =>
 bif (b == ([] : Str)) then
 (g true)
 else
 (g (b == x2.By)))
 else
 (e d a)
def zia (x0 : Vm.Repo) (x1 : List Vm.Owner) (x2 : Vm.Review) : Option ((List Str)) :=
 (Vm.zhu x0 x2).bind fun a =>
 jn (fun (b : List Str) (d : Int) =>
 some b) fun c =>
 zcd x1 x2 a c (((a.length : Int) - 0).toNat + 1) ([] : List Str) 0
def zes (x0 : Vm.Repo) (x1 : List Vm.Owner) (x2 : Vm.Review) : Option ((List Str) × Bool) :=
 jn (fun (b : Bool) =>
 bif b then
 (some (([] : List Str), false))
 else
 ((Vm.zia x0 x1 x2).bind fun c =>
 some (c, true))) fun a =>
 (Vm.zfg x0).bind fun d =>
 bif (!d) then
 (a true)
 else
 ((Vm.ze3 x1).bind fun e =>
 bif (!e) then
 (a true)
 else
 ((Vm.zh8 x2).bind fun f =>
 bif (!f) then
 (a true)
 else
 ((Vm.zeQ x0 x2.Branch).bind fun g =>
 bif decide ((g : Int) < (0 : Int)) then
 (a true)
 else
 ((Vm.zeQ x0 x2.Into).bind fun h =>
 a (decide ((h : Int) < (0 : Int)))))))
def zcR (x0 : List Vm.Owner) (d : Bool → Int → Option (Bool)) : Nat → Bool → Int → Option (Bool)
 | 0, _, _ => none
 | m + 1, e, a =>
 bif decide ((a : Int) < ((x0.length : Int) : Int)) then
 ((gi x0 a).bind fun c =>
 jn (fun (f : Bool) =>
 bif f then
 (some false)
 else
 (zcR x0 d m e (w64 (a + 1)))) fun b =>
 (Vm.zdO c.Path).bind fun g =>
 bif (!g) then
 (b true)
 else
 ((Vm.zb0 c.Who).bind fun h =>
 bif (!h) then
 (b true)
 else
 (bif decide ((0 : Int) < (a : Int)) then
 ((gi x0 (w64 (a - 1))).bind fun i =>
 b (!Op.bytesLess i.Path c.Path))
 else
 (b false))))
 else
 (d e a)
def zeW (x0 : List Vm.Owner) : Option (Bool) :=
 bif decide ((5 : Int) < ((x0.length : Int) : Int)) then
 (some false)
 else
 (jn (fun (b : Bool) (c : Int) =>
 some true) fun a =>
 zcR x0 a (((x0.length : Int) - 0).toNat + 1) false 0)
def zc9 (x0 : List Str) (c : Bool → Int → Option (Bool)) : Nat → Bool → Int → Option (Bool)
 | 0, _, _ => none
 | m + 1, d, a =>
 bif decide ((a : Int) < ((x0.length : Int) : Int)) then
 ((gi x0 a).bind fun e =>
 jn (fun (f : Bool) =>
 bif f then
 (some false)
 else
 (zc9 x0 c m d (w64 (a + 1)))) fun b =>
 (Vm.zb0 e).bind fun g =>
 bif (!g) then
 (b true)
 else
 (bif decide ((0 : Int) < (a : Int)) then
 ((gi x0 (w64 (a - 1))).bind fun h =>
 b (!Op.bytesLess h e))
 else
 (b false)))
 else
 (c d a)
def zf6 (x0 : List Str) : Option (Bool) :=
 jn (fun (b : Bool) (c : Int) =>
 some true) fun a =>
 zc9 x0 a (((x0.length : Int) - 0).toNat + 1) false 0
def zfB (x0 : Vm.Review) : Option (Bool) :=
 jn (fun (b : Bool) =>
 some b) fun a =>
 (Vm.zb0 x0.Branch).bind fun c =>
 bif c then
 ((Vm.zb0 x0.Into).bind fun d =>
 bif d then
 ((Vm.zb0 x0.By).bind fun e =>
 bif e then
 (bif (x0.Branch != x0.Into) then
 (bif decide (((x0.Yes.length : Int) : Int) ≤ (5 : Int)) then
 ((Vm.zf6 x0.Yes).bind fun f =>
 a f)
 else
 (a false))
 else
 (a false))
 else
 (a false))
 else
 (a false))
 else
 (a false)
def zbv (x0 : List Bool) : Option ((List Bool)) :=
 if x0.length ≤ lim then some x0 else none
def zbW (e : Int) (c : (List Int)) (f : Int → List Bool → Option ((List Int))) : Nat → Int → List Bool → Option ((List Int))
 | 0, _, _ => none
 | m + 1, a, b =>
 bif decide ((a : Int) < ((c.length : Int) : Int)) then
 (jn (fun (h : List Bool) =>
 zbW e c f m (w64 (a + 1)) h) fun g =>
 (gi c a).bind fun d =>
 bif ((d : Int) != (e : Int)) then
 ((gi b d).bind fun j =>
 (siM b d false).bind fun i =>
 g i)
 else
 (g b))
 else
 (f a b)
def za4 (x0 : Vm.Repo) (b : (List Int)) (c : Int → List Bool → Option ((List Int))) : Nat → Int → List Bool → Option ((List Int))
 | 0, _, _ => none
 | m + 1, a, d =>
 bif decide ((a : Int) < ((b.length : Int) : Int)) then
 ((gi b a).bind fun e =>
 (Vm.zaU x0 e).bind fun g =>
 (Vm.za9 g).bind fun f =>
 jn (fun (j : Int) (h : List Bool) =>
 za4 x0 b c m (w64 (a + 1)) h) fun i =>
 zbW e f i (((f.length : Int) - 0).toNat + 1) 0 d)
 else
 (c a d)
def zbF (c : (List Bool)) (d : (List Bool)) (e : List Bool) (f : Int → List Bool → Option ((List Int))) : Nat → Int → List Bool → Option ((List Int))
 | 0, _, _ => none
 | m + 1, a, b =>
 bif decide ((a : Int) < ((e.length : Int) : Int)) then
 ((gi c a).bind fun g =>
 bif g then
 ((gi d a).bind fun h =>
 (gi b a).bind fun k =>
 (siM b a h).bind fun i =>
 zbF c d e f m (w64 (a + 1)) i)
 else
 ((gi b a).bind fun l =>
 (siM b a false).bind fun j =>
 zbF c d e f m (w64 (a + 1)) j))
 else
 (f a b)
def zet (x0 : Vm.Repo) (x1 : Int) (x2 : Int) : Option ((List Int)) :=
 (Vm.zaU x0 x1).bind fun d =>
 (Vm.zaU x0 x2).bind fun e =>
 (mkM (x0.Commits.length : Int) (false : Bool)).bind fun a =>
 jn (fun (k : Int) (b : List Bool) =>
 (Vm.zbv b).bind fun f =>
 (Vm.za9 b).bind fun c =>
 jn (fun (l : Int) (g : List Bool) =>
 (Vm.za9 g).bind fun h =>
 some h) fun i =>
 za4 x0 c i (((c.length : Int) - 0).toNat + 1) 0 f) fun j =>
 zbF d e a j (((a.length : Int) - 0).toNat + 1) 0 a
def zc3 (x0 : Vm.Repo) (x1 : Int) (x2 : Int) : Option ((List Vm.File)) :=
 (Vm.zet x0 x1 x2).bind fun a =>
 bif (((a.length : Int) : Int) == (0 : Int)) then
 (some ([] : List File))
 else
 ((gi a (w64 ((a.length : Int) - 1))).bind fun b =>
 (Vm.zaF x0 b).bind fun c =>
 some c)
def ze8 (x0 : List Str) (x1 : List Str) (f : List Int) (g : List Vm.Hunk → Int → Int → Int → Option ((List Vm.Hunk))) : Nat → List Vm.Hunk → Int → Int → Int → Option ((List Vm.Hunk))
 | 0, _, _, _, _ => none
 | m + 1, c, b, d, a =>
 bif decide ((a : Int) < ((f.length : Int) : Int)) then
 (jn (fun (k : List Vm.Hunk) (l : Int) (n : Int) =>
 ze8 x0 x1 f g m k l n (w64 (a + 1))) fun h =>
 (gi f a).bind fun e =>
 bif decide ((e : Int) < (0 : Int)) then
 (h c b d)
 else
 (jn (fun (o : List Vm.Hunk) =>
 h o (w64 (a + 1)) (w64 (e + 1))) fun i =>
 jn (fun (p : Bool) =>
 bif p then
 ((slM x0 b a).bind fun q =>
 (slM x1 d e).bind fun r =>
 (Vm.zbu q).bind fun s =>
 (Vm.zbu r).bind fun t =>
 (apM c [Vm.Hunk.mk b s t]).bind fun u =>
 i u)
 else
 (i c)) fun j =>
 bif decide ((b : Int) < (a : Int)) then
 (j true)
 else
 (j (decide ((d : Int) < (e : Int))))))
 else
 (g c b d a)
def zjw (x0 : List Str) (x1 : List Str) : Option ((List Vm.Hunk)) :=
 (Vm.zfo x0 x1).bind fun b =>
 (apM b [(x1.length : Int)]).bind fun a =>
 jn (fun (c : List Vm.Hunk) (e : Int) (f : Int) (g : Int) =>
 some c) fun d =>
 ze8 x0 x1 a d (((a.length : Int) - 0).toNat + 1) ([] : List Hunk) 0 0 0
def zaC (x0 : List Str) (x1 : Str) (b : Int → Int → Option (Int)) : Nat → Int → Int → Option (Int)
 | 0, _, _ => none
 | m + 1, c, a =>
 bif decide ((a : Int) < ((x0.length : Int) : Int)) then
 ((gi x0 a).bind fun d =>
 bif (x1 == d) then
 (some a)
 else
 (zaC x0 x1 b m c (w64 (a + 1))))
 else
 (b c a)
def zbd (x0 : List Str) (x1 : Str) : Option (Int) :=
 jn (fun (b : Int) (c : Int) =>
 some (-1)) fun a =>
 zaC x0 x1 a (((x0.length : Int) - 0).toNat + 1) 0 0
def zaH (x0 : List Str) (x1 : Str) : Option (Bool) :=
 (Vm.zbd x0 x1).bind fun a =>
 some (decide ((0 : Int) ≤ (a : Int)))
def zcu (x0 : List Vm.File) (x1 : List Vm.File) (c : Vm.File) (d : List Str → Int → Str → Str → List Str → List Vm.Hunk → Option ((List Vm.Change)))  : Nat → List Str → Int → Int → Str → Str → List Str → List Vm.Hunk → Option ((List Vm.Change))
 | 0, _, _, _, _, _, _, _ => none
 | m + 1, b, e, g, h, i, j, k =>
 bif decide ((e : Int) < ((x1.length : Int) : Int)) then
 ((gi x1 e).bind fun a =>
 (Vm.zge x0 a.Path).bind fun l =>
 jn (fun (n : Bool) =>
 bif n then
 ((apM b [a.Path]).bind fun o =>
 d o 4 c.Path a.Path ([] : List Str) ([] : List Hunk))
 else
 (zcu x0 x1 c d m b (w64 (e + 1)) g h i j k)) fun f =>
 bif (!l.2) then
 ((Vm.zaw a.Text c.Text).bind fun p =>
 bif p then
 ((Vm.zaH b a.Path).bind fun q =>
 f (!q))
 else
 (f false))
 else
 (f false))
 else
 (d b g h i j k)
def zaW (x0 : List Vm.File) (x1 : List Vm.File) (d : List Str) (e : List Vm.Change → Int → Option ((List Vm.Change))) : Nat → List Vm.Change → Int → Option ((List Vm.Change))
 | 0, _, _ => none
 | m + 1, c, a =>
 bif decide ((a : Int) < ((x1.length : Int) : Int)) then
 (jn (fun (h : List Vm.Change) =>
 zaW x0 x1 d e m h (w64 (a + 1))) fun f =>
 (gi x1 a).bind fun b =>
 (Vm.zge x0 b.Path).bind fun i =>
 jn (fun (j : Bool) =>
 bif j then
 ((Vm.zbu b.Text).bind fun k =>
 (apM c ([Vm.Change.mk 1 b.Path ([] : Str) k ([] : List Hunk)])).bind fun l =>
 f l)
 else
 (f c)) fun g =>
 bif (!i.2) then
 ((Vm.zaH d b.Path).bind fun n =>
 g (!n))
 else
 (g false))
 else
 (e c a)
def zcv (x0 : List Vm.File) (x1 : List Vm.File) (g : List Vm.Change → List Str → Int → Option ((List Vm.Change))) : Nat → List Vm.Change → List Str → Int → Option ((List Vm.Change))
 | 0, _, _, _ => none
 | m + 1, b, c, d =>
 bif decide ((d : Int) < ((x0.length : Int) : Int)) then
 (jn (fun (i : List Vm.Change) (j : List Str) =>
 zcv x0 x1 g m i j (w64 (d + 1))) fun f =>
 (gi x0 d).bind fun a =>
 (Vm.zge x1 a.Path).bind fun e =>
 jn (fun (k : Bool) =>
 bif k then
 (f b c)
 else
 (bif e.2 then
 ((Vm.zjw a.Text e.1).bind fun l =>
 (apM b ([Vm.Change.mk 3 a.Path ([] : Str) ([] : List Str) l])).bind fun n =>
 f n c)
 else
 ((Vm.zbu a.Text).bind fun o =>
 jn (fun (p : List Str) (q : Int) (r : Str) (s : Str) (t : List Str) (u : List Vm.Hunk) =>
 (apM b [Vm.Change.mk q r s t u]).bind fun v =>
 f v p) fun w =>
 zcu x0 x1 a w (((x1.length : Int) - 0).toNat + 1) c 0 2 a.Path ([] : Str) o ([] : List Hunk)))) fun h =>
 bif e.2 then
 ((Vm.zaw e.1 a.Text).bind fun x =>
 h x)
 else
 (h false))
 else
 (g b c d)
def ze9 (x0 : List Vm.File) (x1 : List Vm.File) : Option ((List Vm.Change)) :=
 jn (fun (b : Bool) =>
 bif b then
 (some ([] : List Change))
 else
 (jn (fun (c : List Vm.Change) (d : List Str) (j : Int) =>
 jn (fun (e : List Vm.Change) (k : Int) =>
 some e) fun f =>
 zaW x0 x1 d f (((x1.length : Int) - 0).toNat + 1) c 0) fun g =>
 zcv x0 x1 g (((x0.length : Int) - 0).toNat + 1) ([] : List Change) ([] : List Str) 0)) fun a =>
 (Vm.zb1 x0).bind fun h =>
 bif (!h) then
 (a true)
 else
 ((Vm.zb1 x1).bind fun i =>
 a (!i))
def zda (x0 : List Vm.Change) (c : List Str → Int → Option ((List Str))) : Nat → List Str → Int → Option ((List Str))
 | 0, _, _ => none
 | m + 1, d, a =>
 bif decide ((a : Int) < ((x0.length : Int) : Int)) then
 (jn (fun (g : List Str) =>
 zda x0 c m g (w64 (a + 1))) fun e =>
 (gi x0 a).bind fun b =>
 (apM d [b.Path]).bind fun f =>
 bif ((b.Kind : Int) == (4 : Int)) then
 ((apM f [b.To]).bind fun h =>
 e h)
 else
 (e f))
 else
 (c d a)
def zf7 (x0 : List Vm.Change) : Option ((List Str)) :=
 jn (fun (a : List Str) (d : Int) =>
 (Vm.zay a).bind fun b =>
 some b) fun c =>
 zda x0 c (((x0.length : Int) - 0).toNat + 1) ([] : List Str) 0
def zdb (x0 : List Vm.Owner) (x1 : Str) (e : Int → Str → Str → Option (Str)) : Nat → Int → Str → Str → Option (Str)
 | 0, _, _, _ => none
 | m + 1, b, c, f =>
 bif decide ((b : Int) < ((x0.length : Int) : Int)) then
 (jn (fun (h : Str) (i : Str) =>
 zdb x0 x1 e m (w64 (b + 1)) h i) fun g =>
 (gi x0 b).bind fun a =>
 jn (fun (j : Bool) =>
 bif j then
 (g a.Path a.Who)
 else
 (g c f)) fun d =>
 bif (a.Path == x1) then
 (d (decide (((c.length : Int) : Int) < ((a.Path.length : Int) : Int))))
 else
 ((Vm.zbR a.Path x1).bind fun k =>
 bif k then
 (d (decide (((c.length : Int) : Int) < ((a.Path.length : Int) : Int))))
 else
 (d false)))
 else
 (e b c f)
def zf8 (x0 : List Vm.Owner) (x1 : Str) : Option (Str) :=
 jn (fun (b : Bool) =>
 bif b then
 (some ([] : Str))
 else
 (jn (fun (g : Int) (h : Str) (c : Str) =>
 some c) fun d =>
 zdb x0 x1 d (((x0.length : Int) - 0).toNat + 1) 0 ([] : Str) ([] : Str))) fun a =>
 (Vm.zeW x0).bind fun e =>
 bif (!e) then
 (a true)
 else
 ((Vm.zdO x1).bind fun f =>
 a (!f))
def zf9 (x0 : List Str) (x1 : Str) : Option ((List Str)) :=
 (apM ([] : List Str) x0).bind fun a =>
 (apM a [x1]).bind fun b =>
 (Vm.zay b).bind fun c =>
 (Vm.za2 c).bind fun d =>
 some d
def zbp (x1 : List Vm.Owner) (x2 : Vm.Review) (c : (List Str)) (f : List Str → Int → Option ((List Str) × Bool)) : Nat → List Str → Int → Option ((List Str) × Bool)
 | 0, _, _ => none
 | m + 1, d, a =>
 bif decide ((a : Int) < ((c.length : Int) : Int)) then
 (jn (fun (h : List Str) =>
 zbp x1 x2 c f m h (w64 (a + 1))) fun g =>
 (gi c a).bind fun i =>
 (Vm.zf8 x1 i).bind fun b =>
 jn (fun (j : Bool) =>
 bif j then
 ((Vm.zf9 d b).bind fun k =>
 g k)
 else
 (g d)) fun e =>
 bif (b != ([] : Str)) then
 (bif (b != x2.By) then
 ((Vm.zaH x2.Yes b).bind fun l =>
 e (!l))
 else
 (e false))
 else
 (e false))
 else
 (f d a)
def zdP (x0 : Vm.Repo) (x1 : List Vm.Owner) (x2 : Vm.Review) : Option ((List Str) × Bool) :=
 jn (fun (d : Bool) =>
 bif d then
 (some (([] : List Str), false))
 else
 ((Vm.zcz x0 x2.Branch).bind fun b =>
 (Vm.zcz x0 x2.Into).bind fun e =>
 (Vm.zc3 x0 b e).bind fun f =>
 (Vm.zaF x0 b).bind fun g =>
 (Vm.ze9 f g).bind fun h =>
 (Vm.zf7 h).bind fun c =>
 jn (fun (i : List Str) (p : Int) =>
 some (i, true)) fun j =>
 zbp x1 x2 c j (((c.length : Int) - 0).toNat + 1) ([] : List Str) 0)) fun a =>
 (Vm.zeG x0).bind fun k =>
 bif (!k) then
 (a true)
 else
 ((Vm.zeW x1).bind fun l =>
 bif (!l) then
 (a true)
 else
 ((Vm.zfB x2).bind fun m =>
 bif (!m) then
 (a true)
 else
 ((Vm.zcz x0 x2.Branch).bind fun n =>
 bif decide ((n : Int) < (0 : Int)) then
 (a true)
 else
 ((Vm.zcz x0 x2.Into).bind fun o =>
 a (decide ((o : Int) < (0 : Int)))))))
def zib (x0 : Vm.Owner) (x1 : Vm.Owner) : Option (Bool) :=
 bif (x0.Path != x1.Path) then
 (some false)
 else
 (bif (x0.Who != x1.Who) then
 (some false)
 else
 (some true))
def zeM (x0 : List Vm.Owner) (x1 : List Vm.Owner) (b : Bool → Int → Option (Bool)) : Nat → Bool → Int → Option (Bool)
 | 0, _, _ => none
 | m + 1, c, a =>
 bif decide ((a : Int) < ((x0.length : Int) : Int)) then
 ((gi x0 a).bind fun d =>
 (gi x1 a).bind fun e =>
 (Vm.zib d e).bind fun f =>
 bif (!f) then
 (some false)
 else
 (zeM x0 x1 b m c (w64 (a + 1))))
 else
 (b c a)
def zhv (x0 : List Vm.Owner) (x1 : List Vm.Owner) : Option (Bool) :=
 bif (((x0.length : Int) : Int) != ((x1.length : Int) : Int)) then
 (some false)
 else
 (jn (fun (b : Bool) (c : Int) =>
 some true) fun a =>
 zeM x0 x1 a (((x0.length : Int) - 0).toNat + 1) false 0)
def zhw (x0 : Vm.Review) (x1 : Vm.Review) : Option (Bool) :=
 bif (x0.Branch != x1.Branch) then
 (some false)
 else
 (bif (x0.Into != x1.Into) then
 (some false)
 else
 (bif (x0.By != x1.By) then
 (some false)
 else
 ((Vm.zcI x0.Yes x1.Yes).bind fun a =>
 bif (!a) then
 (some false)
 else
 (some true))))
def zdQ  (d : Int → Int → List Vm.Owner → Option (Int × (List Vm.Owner))) : Nat → Int → Int → List Vm.Owner → Option (Int × (List Vm.Owner))
 | 0, _, _, _ => none
 | m + 1, b, a, c =>
 bif decide ((a : Int) < ((c.length : Int) : Int)) then
 ((Vm.za0 b).bind fun f =>
 (gi c a).bind fun g =>
 (siM c a (Vm.Owner.mk f g.Who)).bind fun e =>
 (Vm.za0 (w64 (b + 1))).bind fun h =>
 (gi e a).bind fun i =>
 (siM e a (Vm.Owner.mk i.Path h)).bind fun j =>
 zdQ d m (w64 ((w64 (b + 1)) + 1)) (w64 (a + 1)) j)
 else
 (d b a c)
def zfZ (x0 : List Vm.Owner) (x1 : Int) : Option (Int × (List Vm.Owner)) :=
 jn (fun (a : Int) (d : Int) (b : List Vm.Owner) =>
 some (a, b)) fun c =>
 zdQ c (((x0.length : Int) - 0).toNat + 1) x1 0 x0
def zf0 (x0 : Vm.Review) (x1 : Int) : Option (Int × Vm.Review) :=
 (Vm.zb8 x0.Yes x1).bind fun a =>
 some (a.1, Vm.Review.mk x0.Branch x0.Into x0.By a.2)
def zcC (x0 : Vm.Repo) (x1 : List Vm.Owner) (x2 : Vm.Review) : Option (Bool) :=
 (Vm.zhS x0 1048576).bind fun k =>
 bif decide ((k : Int) < (0 : Int)) then
 (some true)
 else
 ((Vm.zhs x1 k).bind fun l =>
 bif decide ((l : Int) < (0 : Int)) then
 (some true)
 else
 ((Vm.zht x2 l).bind fun u =>
 bif decide ((u : Int) < (0 : Int)) then
 (some true)
 else
 ((Vm.zd3 x0).bind fun m =>
 (Vm.zeU x1).bind fun v =>
 (Vm.zeV x2).bind fun e =>
 (Vm.zes (Vm.Repo.mk m.Commits m.Heads) v (Vm.Review.mk e.Branch e.Into e.By e.Yes)).bind fun b =>
 (Vm.zd3 x0).bind fun c =>
 (Vm.zeU x1).bind fun i =>
 (Vm.zeV x2).bind fun a =>
 (Vm.zdP (Vm.Repo.mk c.Commits c.Heads) i (Vm.Review.mk a.Branch a.Into a.By a.Yes)).bind fun d =>
 jn (fun (w : Bool) =>
 bif w then
 (some false)
 else
 ((Vm.zd3 x0).bind fun n =>
 (Vm.zfI (Vm.Repo.mk c.Commits c.Heads) (Vm.Repo.mk n.Commits n.Heads)).bind fun x =>
 bif (!x) then
 (some false)
 else
 ((Vm.zeU x1).bind fun y =>
 (Vm.zhv i y).bind fun z =>
 bif (!z) then
 (some false)
 else
 ((Vm.zeV x2).bind fun f =>
 (Vm.zhw (Vm.Review.mk a.Branch a.Into a.By a.Yes) (Vm.Review.mk f.Branch f.Into f.By f.Yes)).bind fun A =>
 bif (!A) then
 (some false)
 else
 ((Vm.zfw (Vm.Repo.mk c.Commits c.Heads) 1).bind fun B =>
 (Vm.zfZ i B.1).bind fun C =>
 (Vm.zf0 (Vm.Review.mk a.Branch a.Into a.By a.Yes) C.1).bind fun D =>
 jn (fun (E : Bool) =>
 bif E then
 (some false)
 else
 ((Vm.zb8 d.1 1).bind fun g =>
 (Vm.zcJ g.2 1).bind fun o =>
 bif decide ((o : Int) < (0 : Int)) then
 (some false)
 else
 (bif ((o : Int) != (g.1 : Int)) then
 (some false)
 else
 ((Vm.zd3 x0).bind fun p =>
 (Vm.zeU x1).bind fun F =>
 (Vm.zeV x2).bind fun h =>
 (Vm.zdP (Vm.Repo.mk p.Commits p.Heads) F (Vm.Review.mk h.Branch h.Into h.By h.Yes)).bind fun q =>
 jn (fun (G : Bool) =>
 bif G then
 (some false)
 else
 ((Vm.zcJ g.2 1).bind fun r =>
 bif decide ((r : Int) < (0 : Int)) then
 (some false)
 else
 (bif ((r : Int) != (g.1 : Int)) then
 (some false)
 else
 (some true)))) fun s =>
 (Vm.zcI q.1 b.1).bind fun H =>
 bif (!H) then
 (s true)
 else
 (s (q.2 != b.2)))))) fun j =>
 bif decide ((D.1 : Int) < (0 : Int)) then
 (j true)
 else
 ((Vm.zcI d.1 b.1).bind fun I =>
 bif (!I) then
 (j true)
 else
 (j (d.2 != b.2)))))))) fun t =>
 (Vm.zcI d.1 b.1).bind fun J =>
 bif (!J) then
 (t true)
 else
 (t (d.2 != b.2)))))
end Go.Vm
