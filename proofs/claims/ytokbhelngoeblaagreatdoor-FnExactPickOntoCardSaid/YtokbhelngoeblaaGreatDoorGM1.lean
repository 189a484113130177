/- Models of the functions: plain Lean, printed by a program of ours. Conditions: none. -/
import Derived.Test.YtokbhelngoeblaaGreatDoorGLw
import Derived.Test.YtokbhelngoeblaaGreatDoorGM0
namespace Go.Vm
open Go Go.Sx
set_option linter.unusedVariables false
set_option linter.unusedSimpArgs false
def zdA (x0 : List Vm.File) (b : List Vm.File → Int → Option ((List Vm.File))) : Nat → List Vm.File → Int → Option ((List Vm.File))
 | 0, _, _ => none
 | m + 1, c, a =>
 bif decide ((a : Int) < ((x0.length : Int) : Int)) then
 ((gi x0 a).bind fun d =>
 (gi x0 a).bind fun e =>
 (apM ([] : List Str) e.Text).bind fun f =>
 (apM c [Vm.File.mk d.Path f]).bind fun g =>
 zdA x0 b m g (w64 (a + 1)))
 else
 (b c a)
def zgf (x0 : List Vm.File) : Option ((List Vm.File)) :=
 jn (fun (a : List Vm.File) (c : Int) =>
 some a) fun b =>
 zdA x0 b (((x0.length : Int) - 0).toNat + 1) ([] : List File) 0
def zdv (x0 : Vm.Commit) : Option (Vm.Commit) :=
 (apM ([] : List Int) x0.Parents).bind fun a =>
 (Vm.zgf x0.Tree).bind fun b =>
 some (Vm.Commit.mk a x0.Who b)
def zdB (x0 : Vm.Repo) (c : Int → List Vm.Commit → List Vm.Head → Option (Vm.Repo)) : Nat → Int → List Vm.Commit → List Vm.Head → Option (Vm.Repo)
 | 0, _, _, _ => none
 | m + 1, a, d, e =>
 bif decide ((a : Int) < ((x0.Commits.length : Int) : Int)) then
 ((gi x0.Commits a).bind fun f =>
 (Vm.zdv f).bind fun b =>
 (apM d [Vm.Commit.mk b.Parents b.Who b.Tree]).bind fun g =>
 zdB x0 c m (w64 (a + 1)) g e)
 else
 (c a d e)
def zfJ (x0 : Vm.Repo) : Option (Vm.Repo) :=
 (apM ([] : List Head) x0.Heads).bind fun a =>
 jn (fun (e : Int) (b : List Vm.Commit) (c : List Vm.Head) =>
 some (Vm.Repo.mk b c)) fun d =>
 zdB x0 d (((x0.Commits.length : Int) - 0).toNat + 1) 0 ([] : List Commit) a
def zdC (d : (List Int)) (b : (List Int)) (e : List Int → Int → Option ((List Int))) : Nat → List Int → Int → Option ((List Int))
 | 0, _, _ => none
 | m + 1, c, a =>
 bif decide ((a : Int) < ((b.length : Int) : Int)) then
 (jn (fun (g : List Int) =>
 zdC d b e m g (w64 (a + 1))) fun f =>
 (gi b a).bind fun h =>
 (Vm.zfn d h).bind fun i =>
 bif (!i) then
 ((gi b a).bind fun j =>
 (apM c [j]).bind fun k =>
 f k)
 else
 (f c))
 else
 (e c a)
def zg6 (x0 : Vm.Repo) (x1 : Int) (x2 : Int) : Option ((List Int)) :=
 jn (fun (c : Bool) =>
 bif c then
 (some ([] : List Int))
 else
 ((Vm.zeC x0 x1).bind fun d =>
 (Vm.zeC x0 x2).bind fun b =>
 jn (fun (e : List Int) (j : Int) =>
 some e) fun f =>
 zdC d b f (((b.length : Int) - 0).toNat + 1) ([] : List Int) 0)) fun a =>
 (Vm.zfg x0).bind fun g =>
 bif (!g) then
 (a true)
 else
 ((Vm.zeP x1 0 (w64 ((x0.Commits.length : Int) - 1))).bind fun h =>
 bif (!h) then
 (a true)
 else
 ((Vm.zeP x2 0 (w64 ((x0.Commits.length : Int) - 1))).bind fun i =>
 a (!i)))
def zdD (x0 : Vm.Repo) (x1 : Str) (x2 : Int) (e : Bool → Int → List Vm.Commit → List Vm.Head → Option (Vm.Repo)) : Nat → Bool → Int → List Vm.Commit → List Vm.Head → Option (Vm.Repo)
 | 0, _, _, _, _ => none
 | m + 1, b, a, c, d =>
 bif decide ((a : Int) < ((x0.Heads.length : Int) : Int)) then
 (jn (fun (l : Bool) (n : List Vm.Commit) (o : List Vm.Head) =>
 zdD x0 x1 x2 e m l (w64 (a + 1)) n o) fun f =>
 jn (fun (g : Bool) (h : List Vm.Commit) (i : List Vm.Head) =>
 (gi x0.Heads a).bind fun p =>
 bif (p.Name != x1) then
 ((gi x0.Heads a).bind fun q =>
 (apM i [q]).bind fun r =>
 f g h r)
 else
 (f g h i)) fun j =>
 jn (fun (s : Bool) =>
 bif s then
 ((apM d [Vm.Head.mk x1 x2]).bind fun t =>
 j true c t)
 else
 (j b c d)) fun k =>
 bif (!b) then
 ((gi x0.Heads a).bind fun u =>
 k (!Op.bytesLess u.Name x1))
 else
 (k false))
 else
 (e b a c d)
def zgg (x0 : Vm.Repo) (x1 : Str) (x2 : Int) : Option (Vm.Repo) :=
 jn (fun (d : Bool) (i : Int) (a : List Vm.Commit) (b : List Vm.Head) =>
 jn (fun (e : List Vm.Commit) (f : List Vm.Head) =>
 some (Vm.Repo.mk e f)) fun c =>
 bif (!d) then
 ((apM b [Vm.Head.mk x1 x2]).bind fun g =>
 c a g)
 else
 (c a b)) fun h =>
 zdD x0 x1 x2 h (((x0.Heads.length : Int) - 0).toNat + 1) false 0 x0.Commits ([] : List Head)
def zdf (x0 : Vm.Repo) (x1 : Int) : Option ((List Vm.File)) :=
 (gi x0.Commits x1).bind fun a =>
 bif (((a.Parents.length : Int) : Int) == (0 : Int)) then
 (some ([] : List File))
 else
 ((gi x0.Commits x1).bind fun b =>
 (gi b.Parents 0).bind fun c =>
 (gi x0.Commits c).bind fun d =>
 some d.Tree)
def za1 (x2 : List Vm.File) (b : List Str → Int → Option ((List Str))) : Nat → List Str → Int → Option ((List Str))
 | 0, _, _ => none
 | m + 1, c, a =>
 bif decide ((a : Int) < ((x2.length : Int) : Int)) then
 ((gi x2 a).bind fun d =>
 (Vm.zdu c d.Path).bind fun e =>
 za1 x2 b m e (w64 (a + 1)))
 else
 (b c a)
def zbE (x1 : List Vm.File) (b : List Str → Int → Option ((List Str))) : Nat → List Str → Int → Option ((List Str))
 | 0, _, _ => none
 | m + 1, c, a =>
 bif decide ((a : Int) < ((x1.length : Int) : Int)) then
 ((gi x1 a).bind fun d =>
 (Vm.zdu c d.Path).bind fun e =>
 zbE x1 b m e (w64 (a + 1)))
 else
 (b c a)
def zc7 (x0 : List Vm.File) (b : List Str → Int → Option ((List Str))) : Nat → List Str → Int → Option ((List Str))
 | 0, _, _ => none
 | m + 1, c, a =>
 bif decide ((a : Int) < ((x0.length : Int) : Int)) then
 ((gi x0 a).bind fun d =>
 (Vm.zdu c d.Path).bind fun e =>
 zc7 x0 b m e (w64 (a + 1)))
 else
 (b c a)
def zf3 (x0 : List Vm.File) (x1 : List Vm.File) (x2 : List Vm.File) : Option ((List Str)) :=
 jn (fun (a : List Str) (g : Int) =>
 jn (fun (b : List Str) (h : Int) =>
 jn (fun (c : List Str) (i : Int) =>
 some c) fun d =>
 za1 x2 d (((x2.length : Int) - 0).toNat + 1) b 0) fun e =>
 zbE x1 e (((x1.length : Int) - 0).toNat + 1) a 0) fun f =>
 zc7 x0 f (((x0.length : Int) - 0).toNat + 1) ([] : List Str) 0
def zfK (x0 : List Str) (x1 : Bool) (x2 : List Str) (x3 : Bool) : Option (Bool) :=
 jn (fun (b : Bool) =>
 some b) fun a =>
 bif (x1 == x3) then
 (bif (!x1) then
 (a true)
 else
 ((Vm.zdi x0 x2).bind fun c =>
 a c))
 else
 (a false)
def zg7 (x0 : List Str) (x1 : List Str) (x2 : List Str) : Option (Vm.Part) :=
 jn (fun (c : Bool) =>
 bif c then
 ((apM ([] : List Str) x2).bind fun d =>
 some (Vm.Part.mk false d ([] : List Str) ([] : List Str) ([] : List Str)))
 else
 ((Vm.zdi x2 x0).bind fun e =>
 bif e then
 ((apM ([] : List Str) x1).bind fun f =>
 some (Vm.Part.mk false f ([] : List Str) ([] : List Str) ([] : List Str)))
 else
 ((apM ([] : List Str) x0).bind fun g =>
 (apM ([] : List Str) x1).bind fun h =>
 (apM ([] : List Str) x2).bind fun i =>
 some (Vm.Part.mk true ([] : List Str) g h i)))) fun a =>
 (Vm.zdi x1 x0).bind fun b =>
 bif b then
 (a b)
 else
 ((Vm.zdi x1 x2).bind fun j =>
 a j)
def zhq (x0 : List Vm.Part) (x1 : Vm.Part) : Option ((List Vm.Part)) :=
 jn (fun (d : Bool) =>
 bif d then
 (some x0)
 else
 (jn (fun (e : Bool) =>
 bif e then
 ((gi x0 (w64 ((x0.length : Int) - 1))).bind fun a =>
 (apM a.Lines x1.Lines).bind fun f =>
 (gi x0 (w64 ((x0.length : Int) - 1))).bind fun j =>
 (siM x0 (w64 ((x0.length : Int) - 1)) (Vm.Part.mk a.Clash f a.Old a.One a.Two)).bind fun g =>
 some g)
 else
 ((apM x0 [Vm.Part.mk x1.Clash x1.Lines x1.Old x1.One x1.Two]).bind fun h =>
 some h)) fun b =>
 bif decide ((0 : Int) < ((x0.length : Int) : Int)) then
 (bif (!x1.Clash) then
 ((gi x0 (w64 ((x0.length : Int) - 1))).bind fun i =>
 b (!i.Clash))
 else
 (b false))
 else
 (b false))) fun c =>
 bif (!x1.Clash) then
 (c (((x1.Lines.length : Int) : Int) == (0 : Int)))
 else
 (c false)
def zdV (x0 : List Str) (x1 : List Str) (x2 : List Str) (b : List Int) (d : List Int) (i : List Vm.Part → Int → Int → Int → Int → Option ((List Vm.Part))) : Nat → List Vm.Part → Int → Int → Int → Int → Option ((List Vm.Part))
 | 0, _, _, _, _, _ => none
 | m + 1, e, f, g, h, a =>
 bif decide ((a : Int) < ((b.length : Int) : Int)) then
 (jn (fun (o : List Vm.Part) (p : Int) (q : Int) (r : Int) =>
 zdV x0 x1 x2 b d i m o p q r (w64 (a + 1))) fun j =>
 jn (fun (s : Bool) =>
 bif s then
 (j e f g h)
 else
 ((slM x0 f a).bind fun t =>
 (gi b a).bind fun u =>
 (slM x1 g u).bind fun v =>
 (gi d a).bind fun w =>
 (slM x2 h w).bind fun x =>
 (Vm.zg7 t v x).bind fun c =>
 (Vm.zhq e (Vm.Part.mk c.Clash c.Lines c.Old c.One c.Two)).bind fun k =>
 jn (fun (y : List Vm.Part) =>
 (gi b a).bind fun z =>
 (gi d a).bind fun A =>
 j y (w64 (a + 1)) (w64 (z + 1)) (w64 (A + 1))) fun l =>
 bif decide ((a : Int) < ((x0.length : Int) : Int)) then
 ((gi x0 a).bind fun B =>
 (Vm.zhq k (Vm.Part.mk false ([B] : List Str) ([] : List Str) ([] : List Str) ([] : List Str))).bind fun C =>
 l C)
 else
 (l k))) fun n =>
 (gi b a).bind fun D =>
 bif decide ((D : Int) < (0 : Int)) then
 (n true)
 else
 ((gi d a).bind fun E =>
 n (decide ((E : Int) < (0 : Int)))))
 else
 (i e f g h a)
def zjr (x0 : List Str) (x1 : List Str) (x2 : List Str) : Option ((List Vm.Part)) :=
 (Vm.zdT x0 x1).bind fun b =>
 (apM b [(x1.length : Int)]).bind fun a =>
 (Vm.zdT x0 x2).bind fun c =>
 (apM c [(x2.length : Int)]).bind fun d =>
 jn (fun (e : List Vm.Part) (g : Int) (h : Int) (i : Int) (j : Int) =>
 some e) fun f =>
 zdV x0 x1 x2 a d f (((a.length : Int) - 0).toNat + 1) ([] : List Part) 0 0 0 0
def zdE (x0 : List Vm.Part) (b : List Str → Bool → List Str → Int → Option ((List Str) × Bool)) : Nat → List Str → Bool → List Str → Int → Option ((List Str) × Bool)
 | 0, _, _, _, _ => none
 | m + 1, c, d, e, a =>
 bif decide ((a : Int) < ((x0.length : Int) : Int)) then
 ((gi x0 a).bind fun f =>
 bif f.Clash then
 (some (([] : List Str), false))
 else
 ((gi x0 a).bind fun g =>
 (apM e g.Lines).bind fun h =>
 zdE x0 b m c d h (w64 (a + 1))))
 else
 (b c d e a)
def zg8 (x0 : List Vm.Part) : Option ((List Str) × Bool) :=
 jn (fun (d : List Str) (e : Bool) (a : List Str) (f : Int) =>
 (Vm.zdq a).bind fun b =>
 bif (!b) then
 (some (([] : List Str), false))
 else
 (some (a, true))) fun c =>
 zdE x0 c (((x0.length : Int) - 0).toNat + 1) ([] : List Str) false ([] : List Str) 0
def zh5 (x0 : List Vm.File) (x1 : List Vm.File) (x2 : List Vm.File) (x3 : Str) : Option ((List Str) × Bool × Int) :=
 (Vm.zd4 x0 x3).bind fun a =>
 (Vm.zd4 x1 x3).bind fun b =>
 (Vm.zd4 x2 x3).bind fun c =>
 jn (fun (h : Bool) =>
 bif h then
 (some (c.1, c.2, 0))
 else
 ((Vm.zfK c.1 c.2 a.1 a.2).bind fun i =>
 bif i then
 (some (b.1, b.2, 0))
 else
 (jn (fun (j : Bool) =>
 bif j then
 (some (a.1, a.2, 1))
 else
 (bif (!a.2) then
 (some (([] : List Str), false, 2))
 else
 ((Vm.zjr a.1 b.1 c.1).bind fun k =>
 (Vm.zg8 k).bind fun d =>
 bif (!d.2) then
 (some (a.1, true, 3))
 else
 (some (d.1, true, 0))))) fun e =>
 bif (!b.2) then
 (e true)
 else
 (e (!c.2))))) fun f =>
 (Vm.zfK b.1 b.2 a.1 a.2).bind fun g =>
 bif g then
 (f g)
 else
 ((Vm.zfK b.1 b.2 c.1 c.2).bind fun l =>
 f l)
def ze1 (x0 : List Vm.File) (x1 : List Vm.File) (x2 : List Vm.File) (b : (List Str)) (f : List Vm.File → List Vm.Clash → Int → Option ((List Vm.File) × (List Vm.Clash))) : Nat → List Vm.File → List Vm.Clash → Int → Option ((List Vm.File) × (List Vm.Clash))
 | 0, _, _, _ => none
 | m + 1, d, e, a =>
 bif decide ((a : Int) < ((b.length : Int) : Int)) then
 (jn (fun (j : List Vm.File) (k : List Vm.Clash) =>
 ze1 x0 x1 x2 b f m j k (w64 (a + 1))) fun g =>
 (gi b a).bind fun l =>
 (Vm.zh5 x0 x1 x2 l).bind fun c =>
 jn (fun (h : List Vm.Clash) =>
 bif c.2.1 then
 ((gi b a).bind fun n =>
 (apM ([] : List Str) c.1).bind fun o =>
 (apM d [Vm.File.mk n o]).bind fun p =>
 g p h)
 else
 (g d h)) fun i =>
 bif decide ((0 : Int) < (c.2.2 : Int)) then
 ((gi b a).bind fun q =>
 (apM e [Vm.Clash.mk q c.2.2]).bind fun r =>
 i r)
 else
 (i e))
 else
 (f d e a)
def zjs (x0 : List Vm.File) (x1 : List Vm.File) (x2 : List Vm.File) : Option ((List Vm.File) × (List Vm.Clash)) :=
 (Vm.zf3 x0 x1 x2).bind fun a =>
 jn (fun (b : List Vm.File) (c : List Vm.Clash) (e : Int) =>
 some (b, c)) fun d =>
 ze1 x0 x1 x2 a d (((a.length : Int) - 0).toNat + 1) ([] : List File) ([] : List Clash) 0
def zg9 (x0 : List Vm.File) (x1 : List Vm.File) (x2 : List Vm.File) : Option ((List Vm.File) × (List Vm.Clash)) :=
 (Vm.zjs x0 x1 x2).bind fun a =>
 jn (fun (c : Bool) =>
 bif c then
 ((Vm.zgf x0).bind fun d =>
 some (d, ([Vm.Clash.mk ([] : Str) 4] : List Clash)))
 else
 (some (a.1, a.2))) fun b =>
 bif (((a.2.length : Int) : Int) == (0 : Int)) then
 ((Vm.zg5 a.1).bind fun e =>
 b (!e))
 else
 (b false)
def zgy (x0 : Vm.Repo) (x1 : Str) (x2 : Vm.Commit) : Option (Vm.Repo) :=
 (apM ([] : List Commit) x0.Commits).bind fun a =>
 (apM a [x2]).bind fun b =>
 (Vm.zgg (Vm.Repo.mk b x0.Heads) x1 (x0.Commits.length : Int)).bind fun c =>
 some c
def zeI (x0 : Vm.Repo) (x1 : Str) (x2 : Str) (x3 : List Vm.File) (x4 : List Vm.File) : Option (Vm.Repo × Int) :=
 (Vm.zeQ x0 x1).bind fun a =>
 (gi x0.Commits a).bind fun d =>
 (Vm.zg9 x3 d.Tree x4).bind fun b =>
 bif decide ((0 : Int) < ((b.2.length : Int) : Int)) then
 (some (x0, 4))
 else
 ((Vm.zgy x0 x1 (Vm.Commit.mk ([a] : List Int) x2 b.1)).bind fun c =>
 (Vm.zfg c).bind fun e =>
 bif (!e) then
 (some (x0, 5))
 else
 (some (c, 0)))
def zcK (x0 : Vm.Repo) (x1 : Str) (b : (List Int)) (i : Int → Int → List Vm.Commit → List Vm.Head → List Vm.Commit → List Vm.Head → Option (Vm.Repo × Int)) : Nat → Int → Int → List Vm.Commit → List Vm.Head → List Vm.Commit → List Vm.Head → Option (Vm.Repo × Int)
 | 0, _, _, _, _, _, _ => none
 | m + 1, f, a, g, h, c, d =>
 bif decide ((a : Int) < ((b.length : Int) : Int)) then
 (jn (fun (n : Int) (o : List Vm.Commit) (p : List Vm.Head) (q : List Vm.Commit) (r : List Vm.Head) =>
 zcK x0 x1 b i m n (w64 (a + 1)) o p q r) fun j =>
 (gi b a).bind fun s =>
 (gi x0.Commits s).bind fun k =>
 bif decide ((1 : Int) < ((k.Parents.length : Int) : Int)) then
 (j f g h c d)
 else
 ((gi b a).bind fun t =>
 (Vm.zdf (Vm.Repo.mk c d) t).bind fun u =>
 (gi b a).bind fun v =>
 (gi c v).bind fun w =>
 (Vm.zeI (Vm.Repo.mk c d) x1 k.Who u w.Tree).bind fun e =>
 bif ((e.2 : Int) != (0 : Int)) then
 ((Vm.zfJ x0).bind fun l =>
 some (Vm.Repo.mk l.Commits l.Heads, e.2))
 else
 (j f g h e.1.Commits e.1.Heads)))
 else
 (i f a g h c d)
def zfx (x0 : Vm.Repo) (x1 : Str) (x2 : Int) : Option (Vm.Repo × Int) :=
 (Vm.zfg x0).bind fun f =>
 bif (!f) then
 (some (Vm.Repo.mk ([] : List Commit) ([] : List Head), 1))
 else
 (jn (fun (g : Bool) =>
 bif g then
 ((Vm.zfJ x0).bind fun a =>
 some (Vm.Repo.mk a.Commits a.Heads, 1))
 else
 ((Vm.zeQ x0 x1).bind fun h =>
 (Vm.zg6 x0 x2 h).bind fun b =>
 (Vm.zfJ x0).bind fun c =>
 (Vm.zgg (Vm.Repo.mk c.Commits c.Heads) x1 x2).bind fun d =>
 jn (fun (n : Int) (o : Int) (p : List Vm.Commit) (q : List Vm.Head) (i : List Vm.Commit) (j : List Vm.Head) =>
 some (Vm.Repo.mk i j, 0)) fun k =>
 zcK x0 x1 b k (((b.length : Int) - 0).toNat + 1) 0 0 ([] : List Commit) ([] : List Head) d.Commits d.Heads)) fun e =>
 (Vm.zeQ x0 x1).bind fun l =>
 bif decide ((l : Int) < (0 : Int)) then
 (e true)
 else
 ((Vm.zeP x2 0 (w64 ((x0.Commits.length : Int) - 1))).bind fun m =>
 e (!m)))
def zcL (x0 : List Vm.File) (b : List Vm.File → Int → Option ((List Vm.File))) : Nat → List Vm.File → Int → Option ((List Vm.File))
 | 0, _, _ => none
 | m + 1, c, a =>
 bif decide ((a : Int) < ((x0.length : Int) : Int)) then
 ((gi x0 a).bind fun d =>
 (Vm.zbu d.Text).bind fun e =>
 (apM c [Vm.File.mk d.Path e]).bind fun f =>
 zcL x0 b m f (w64 (a + 1)))
 else
 (b c a)
def zcE (x0 : List Vm.File) : Option ((List Vm.File)) :=
 jn (fun (a : List Vm.File) (c : Int) =>
 some a) fun b =>
 zcL x0 b (((x0.length : Int) - 0).toNat + 1) ([] : List File) 0
def zcM (x0 : Vm.Repo) (c : Int → List Vm.Commit → List Vm.Head → Option (Vm.Repo)) : Nat → Int → List Vm.Commit → List Vm.Head → Option (Vm.Repo)
 | 0, _, _, _ => none
 | m + 1, a, d, e =>
 bif decide ((a : Int) < ((x0.Commits.length : Int) : Int)) then
 ((gi x0.Commits a).bind fun b =>
 (apM ([] : List Int) b.Parents).bind fun f =>
 (Vm.zcE b.Tree).bind fun g =>
 (apM d [Vm.Commit.mk f b.Who g]).bind fun h =>
 zcM x0 c m (w64 (a + 1)) h e)
 else
 (c a d e)
def zbc (x0 : Vm.Repo) : Option (Vm.Repo) :=
 (apM ([] : List Head) x0.Heads).bind fun a =>
 jn (fun (e : Int) (b : List Vm.Commit) (c : List Vm.Head) =>
 some (Vm.Repo.mk b c)) fun d =>
 zcM x0 d (((x0.Commits.length : Int) - 0).toNat + 1) 0 ([] : List Commit) a
def zaV (x0 : List Vm.Head) (x1 : Int) (x2 : Vm.Head) : Option ((List Vm.Head)) :=
 if 0 ≤ x1 ∧ x1 ≤ x0.length ∧ x0.length + 1 ≤ lim then some (x0.take x1.toNat ++ [x2] ++ x0.drop x1.toNat) else none
def zc2 (x0 : List Vm.Head) (x1 : Vm.Head) (b : Int → Option ((List Vm.Head))) : Nat → Int → Option ((List Vm.Head))
 | 0, _ => none
 | m + 1, a =>
 jn (fun (e : Bool) =>
 bif e then
 (zc2 x0 x1 b m (w64 (a - 1)))
 else
 (b a)) fun c =>
 bif decide ((0 : Int) < (a : Int)) then
 ((gi x0 (w64 (a - 1))).bind fun d =>
 c (!(Op.bytesLess d.Name x1.Name || d.Name == x1.Name)))
 else
 (c false)
def zeq (x0 : List Vm.Head) (x1 : Vm.Head) : Option ((List Vm.Head)) :=
 jn (fun (a : Int) =>
 (apM ([] : List Head) x0).bind fun b =>
 (Vm.zaV b a x1).bind fun c =>
 some c) fun d =>
 zc2 x0 x1 d (x0.length + 1) (x0.length : Int)
def za3 (x0 : Vm.Repo) (x1 : Str) (x2 : Int) (c : Int → List Vm.Commit → List Vm.Head → List Vm.Head → Option (Vm.Repo)) : Nat → Int → List Vm.Commit → List Vm.Head → List Vm.Head → Option (Vm.Repo)
 | 0, _, _, _, _ => none
 | m + 1, a, d, e, b =>
 bif decide ((a : Int) < ((x0.Heads.length : Int) : Int)) then
 ((gi b a).bind fun f =>
 bif (f.Name == x1) then
 ((gi b a).bind fun g =>
 (siM b a (Vm.Head.mk g.Name x2)).bind fun h =>
 some (Vm.Repo.mk x0.Commits h))
 else
 (za3 x0 x1 x2 c m (w64 (a + 1)) d e b))
 else
 (c a d e b)
def zbs (x0 : Vm.Repo) (x1 : Str) (x2 : Int) : Option (Vm.Repo) :=
 jn (fun (d : Int) (e : List Vm.Commit) (f : List Vm.Head) (a : List Vm.Head) =>
 (Vm.zeq a (Vm.Head.mk x1 x2)).bind fun b =>
 some (Vm.Repo.mk x0.Commits b)) fun c =>
 za3 x0 x1 x2 c (((x0.Heads.length : Int) - 0).toNat + 1) 0 ([] : List Commit) ([] : List Head) x0.Heads
def zbV (b : (List Int)) (d : Int → List Bool → Option ((List Int))) : Nat → Int → List Bool → Option ((List Int))
 | 0, _, _ => none
 | m + 1, a, c =>
 bif decide ((a : Int) < ((b.length : Int) : Int)) then
 ((gi b a).bind fun e =>
 (gi c e).bind fun g =>
 (siM c e false).bind fun f =>
 zbV b d m (w64 (a + 1)) f)
 else
 (d a c)
def zbn (x0 : Vm.Repo) (x2 : List Int) (b : Int → List Bool → Option ((List Int))) : Nat → Int → List Bool → Option ((List Int))
 | 0, _, _ => none
 | m + 1, a, c =>
 bif decide ((a : Int) < ((x2.length : Int) : Int)) then
 ((gi x2 a).bind fun e =>
 (Vm.zaU x0 e).bind fun f =>
 (Vm.za9 f).bind fun d =>
 jn (fun (i : Int) (g : List Bool) =>
 zbn x0 x2 b m (w64 (a + 1)) g) fun h =>
 zbV d h (((d.length : Int) - 0).toNat + 1) 0 c)
 else
 (b a c)
def zer (x0 : Vm.Repo) (x1 : Int) (x2 : List Int) : Option ((List Int)) :=
 (Vm.zaU x0 x1).bind fun a =>
 jn (fun (e : Int) (b : List Bool) =>
 (Vm.za9 b).bind fun c =>
 some c) fun d =>
 zbn x0 x2 d (((x2.length : Int) - 0).toNat + 1) 0 a
def zb9 (x0 : Vm.Repo) (x1 : Int) : Option (Int) :=
 (gi x0.Commits x1).bind fun a =>
 bif (((a.Parents.length : Int) : Int) == (0 : Int)) then
 (some (-1))
 else
 ((gi x0.Commits x1).bind fun b =>
 (gi b.Parents 0).bind fun c =>
 some c)
def zeS (x0 : List Vm.File) (x1 : List Vm.File) (x2 : List Vm.File) : Option (Bool) :=
 jn (fun (b : Bool) =>
 some b) fun a =>
 (Vm.zb1 x0).bind fun c =>
 bif c then
 ((Vm.zb1 x1).bind fun d =>
 bif d then
 ((Vm.zb1 x2).bind fun e =>
 a e)
 else
 (a false))
 else
 (a false)
def zcN (b : List Vm.File) (c : List Str → Int → Option ((List Str))) : Nat → List Str → Int → Option ((List Str))
 | 0, _, _ => none
 | m + 1, d, a =>
 bif decide ((a : Int) < ((b.length : Int) : Int)) then
 ((gi b a).bind fun e =>
 (apM d [e.Path]).bind fun f =>
 zcN b c m f (w64 (a + 1)))
 else
 (c d a)
def zbo (x0 : List (List Vm.File)) (b : List Str → Int → Option ((List Str))) : Nat → List Str → Int → Option ((List Str))
 | 0, _, _ => none
 | m + 1, c, a =>
 bif decide ((a : Int) < ((x0.length : Int) : Int)) then
 ((gi x0 a).bind fun d =>
 jn (fun (e : List Str) (g : Int) =>
 zbo x0 b m e (w64 (a + 1))) fun f =>
 zcN d f (((d.length : Int) - 0).toNat + 1) c 0)
 else
 (b c a)
def zfy (x0 : List (List Vm.File)) : Option ((List Str)) :=
 jn (fun (a : List Str) (e : Int) =>
 (Vm.zay a).bind fun b =>
 (Vm.za2 b).bind fun c =>
 some c) fun d =>
 zbo x0 d (((x0.length : Int) - 0).toNat + 1) ([] : List Str) 0
def zgz (x0 : List Vm.File) (x1 : Str) : Option (Vm.has) :=
 (Vm.zge x0 x1).bind fun a =>
 some (Vm.has.mk a.1 a.2)
def zeh (x0 : Vm.has) (x1 : Vm.has) : Option (Bool) :=
 jn (fun (b : Bool) =>
 some b) fun a =>
 bif (x0.file == x1.file) then
 ((Vm.zaw x0.text x1.text).bind fun c =>
 a c)
 else
 (a false)
def zfz (x0 : List Str) (x1 : List Str) (x2 : List Str) : Option (Bool) :=
 jn (fun (b : Bool) =>
 some b) fun a =>
 (Vm.zbQ x0).bind fun c =>
 bif c then
 ((Vm.zbQ x1).bind fun d =>
 bif d then
 ((Vm.zbQ x2).bind fun e =>
 a e)
 else
 (a false))
 else
 (a false)
def zca (x0 : List Str) (x1 : List Vm.Part) : Option ((List Vm.Part)) :=
 bif (((x0.length : Int) : Int) == (0 : Int)) then
 (some x1)
 else
 (jn (fun (b : Int) (c : List Vm.Part) =>
 (gi c b).bind fun a =>
 (apM a.Lines x0).bind fun f =>
 (gi c b).bind fun k =>
 (siM c b (Vm.Part.mk a.Clash f a.Old a.One a.Two)).bind fun g =>
 some g) fun d =>
 jn (fun (h : Bool) =>
 bif h then
 ((apM x1 ([Vm.Part.mk false ([] : List Str) ([] : List Str) ([] : List Str) ([] : List Str)])).bind fun i =>
 d (w64 ((w64 ((x1.length : Int) - 1)) + 1)) i)
 else
 (d (w64 ((x1.length : Int) - 1)) x1)) fun e =>
 bif decide ((w64 ((x1.length : Int) - 1) : Int) < (0 : Int)) then
 (e true)
 else
 ((gi x1 (w64 ((x1.length : Int) - 1))).bind fun j =>
 e j.Clash))
def zbi (x0 : List Str) (x1 : List Str) (x2 : List Str) (b : List Int) (d : List Int) (l : Int → Int → Int → Int → List Vm.Part → Option ((List Vm.Part))) : Nat → Int → Int → Int → Int → List Vm.Part → Option ((List Vm.Part))
 | 0, _, _, _, _, _ => none
 | m + 1, g, h, i, a, c =>
 bif decide ((a : Int) < ((b.length : Int) : Int)) then
 (jn (fun (s : Int) (t : Int) (u : Int) (v : List Vm.Part) =>
 zbi x0 x1 x2 b d l m s t u (w64 (a + 1)) v) fun n =>
 jn (fun (w : Bool) =>
 bif w then
 (n g h i c)
 else
 ((slM x0 g a).bind fun j =>
 (gi b a).bind fun x =>
 (slM x1 h x).bind fun e =>
 (gi d a).bind fun y =>
 (slM x2 i y).bind fun f =>
 jn (fun (o : List Vm.Part) =>
 jn (fun (z : List Vm.Part) =>
 (gi b a).bind fun A =>
 (gi d a).bind fun B =>
 n (w64 (a + 1)) (w64 (A + 1)) (w64 (B + 1)) z) fun p =>
 bif decide ((a : Int) < ((x0.length : Int) : Int)) then
 ((slM x0 a (w64 (a + 1))).bind fun C =>
 (Vm.zca C o).bind fun D =>
 p D)
 else
 (p o)) fun k =>
 jn (fun (E : Bool) =>
 bif E then
 ((Vm.zca f c).bind fun F =>
 k F)
 else
 ((Vm.zaw f j).bind fun G =>
 bif G then
 ((Vm.zca e c).bind fun H =>
 k H)
 else
 ((Vm.zbu j).bind fun I =>
 (Vm.zbu e).bind fun J =>
 (Vm.zbu f).bind fun K =>
 (apM c ([Vm.Part.mk true ([] : List Str) I J K])).bind fun L =>
 k L))) fun q =>
 (Vm.zaw e j).bind fun M =>
 bif M then
 (q true)
 else
 ((Vm.zaw e f).bind fun N =>
 q N))) fun r =>
 (gi b a).bind fun O =>
 bif decide ((O : Int) < (0 : Int)) then
 (r true)
 else
 ((gi d a).bind fun P =>
 r (decide ((P : Int) < (0 : Int)))))
 else
 (l g h i a c)
def zf4 (x0 : List Str) (x1 : List Str) (x2 : List Str) : Option ((List Vm.Part)) :=
 (Vm.zfo x0 x1).bind fun b =>
 (apM b [(x1.length : Int)]).bind fun a =>
 (Vm.zfo x0 x2).bind fun c =>
 (apM c [(x2.length : Int)]).bind fun d =>
 jn (fun (g : Int) (h : Int) (i : Int) (j : Int) (e : List Vm.Part) =>
 some e) fun f =>
 zbi x0 x1 x2 a d f (((a.length : Int) - 0).toNat + 1) 0 0 0 0 ([] : List Part)
def zfa (x0 : Vm.Part) : Option ((List Str) × Bool) :=
 some (([] : List Str), false)
def zaz (b : (List Vm.Part)) (f : List Str → Bool → List Str → Int → Option ((List Str) × Bool)) : Nat → List Str → Bool → List Str → Int → Option ((List Str) × Bool)
 | 0, _, _, _, _ => none
 | m + 1, c, d, g, a =>
 bif decide ((a : Int) < ((b.length : Int) : Int)) then
 ((gi b a).bind fun e =>
 jn (fun (j : List Str) (k : Bool) (l : List Str) =>
 (apM g l).bind fun n =>
 zaz b f m j k n (w64 (a + 1))) fun h =>
 bif e.Clash then
 ((Vm.zfa e).bind fun i =>
 bif (!i.2) then
 (some (([] : List Str), false))
 else
 (h c d i.1))
 else
 (h c d e.Lines))
 else
 (f c d g a)
def zbl (x0 : List Str) (x1 : List Str) (x2 : List Str) : Option ((List Str) × Bool) :=
 (Vm.zfz x0 x1 x2).bind fun c =>
 bif (!c) then
 (some (([] : List Str), false))
 else
 ((Vm.zf4 x0 x1 x2).bind fun a =>
 jn (fun (f : List Str) (g : Bool) (b : List Str) (h : Int) =>
 (Vm.zbQ b).bind fun d =>
 bif (!d) then
 (some (([] : List Str), false))
 else
 (some (b, true))) fun e =>
 zaz a e (((a.length : Int) - 0).toNat + 1) ([] : List Str) false ([] : List Str) 0)
def ze2 (x0 : List Str) (x1 : List Str) (x2 : List Str) : Option ((List Str) × Bool) :=
 (Vm.zbl x0 x1 x2).bind fun a =>
 some (a.1, a.2)
def zha (x0 : Vm.has) (x1 : Vm.has) (x2 : Vm.has) : Option (Vm.has × Int) :=
 jn (fun (d : Bool) =>
 bif d then
 (some (x2, 0))
 else
 ((Vm.zeh x2 x0).bind fun e =>
 bif e then
 (some (x1, 0))
 else
 (jn (fun (f : Bool) =>
 bif f then
 (some (x0, 1))
 else
 (bif (!x0.file) then
 (some (x0, 2))
 else
 ((Vm.ze2 x0.text x1.text x2.text).bind fun a =>
 bif (!a.2) then
 (some (x0, 3))
 else
 (some (Vm.has.mk a.1 true, 0))))) fun b =>
 bif (!x1.file) then
 (b true)
 else
 (b (!x2.file))))) fun c =>
 (Vm.zeh x1 x0).bind fun g =>
 bif g then
 (c true)
 else
 ((Vm.zeh x1 x2).bind fun h =>
 c h)
def zdF (x0 : List Vm.File) (x1 : List Vm.File) (x2 : List Vm.File) (d : (List Str)) (g : List Vm.File → List Vm.Clash → Int → Option ((List Vm.File) × (List Vm.Clash))) : Nat → List Vm.File → List Vm.Clash → Int → Option ((List Vm.File) × (List Vm.Clash))
 | 0, _, _, _ => none
 | m + 1, e, f, b =>
 bif decide ((b : Int) < ((d.length : Int) : Int)) then
 (jn (fun (o : List Vm.File) (p : List Vm.Clash) =>
 zdF x0 x1 x2 d g m o p (w64 (b + 1))) fun h =>
 (gi d b).bind fun a =>
 (Vm.zgz x0 a).bind fun i =>
 (Vm.zgz x1 a).bind fun j =>
 (Vm.zgz x2 a).bind fun k =>
 (Vm.zha (Vm.has.mk i.text i.file) (Vm.has.mk j.text j.file) (Vm.has.mk k.text k.file)).bind fun c =>
 jn (fun (l : List Vm.Clash) =>
 bif c.1.file then
 ((apM e [Vm.File.mk a c.1.text]).bind fun q =>
 h q l)
 else
 (h e l)) fun n =>
 bif ((c.2 : Int) != (0 : Int)) then
 ((apM f [Vm.Clash.mk a c.2]).bind fun r =>
 n r)
 else
 (n f))
 else
 (g e f b)
def zhb (x0 : List Vm.File) (x1 : List Vm.File) (x2 : List Vm.File) : Option ((List Vm.File) × (List Vm.Clash)) :=
 (Vm.zeS x0 x1 x2).bind fun e =>
 bif (!e) then
 (some (([] : List File), ([] : List Clash)))
 else
 ((Vm.zfy ([x0, x1, x2] : List (List File))).bind fun a =>
 jn (fun (b : List Vm.File) (c : List Vm.Clash) (j : Int) =>
 jn (fun (f : Bool) =>
 bif f then
 ((Vm.zcE x0).bind fun g =>
 some (g, ([Vm.Clash.mk ([] : Str) 4] : List Clash)))
 else
 (some (b, c))) fun d =>
 bif (((c.length : Int) : Int) == (0 : Int)) then
 ((Vm.zb1 b).bind fun h =>
 d (!h))
 else
 (d false)) fun i =>
 zdF x0 x1 x2 a i (((a.length : Int) - 0).toNat + 1) ([] : List File) ([] : List Clash) 0)
def zei (x0 : List Vm.File) (x1 : List Vm.File) (x2 : List Vm.File) : Option ((List Vm.File) × Bool) :=
 (Vm.zeS x0 x1 x2).bind fun b =>
 bif (!b) then
 (some (([] : List File), false))
 else
 ((Vm.zhb x0 x1 x2).bind fun a =>
 bif decide ((0 : Int) < ((a.2.length : Int) : Int)) then
 (some (([] : List File), false))
 else
 (some (a.1, true)))
def zbM (x0 : Vm.Repo) (x1 : Str) (x2 : Str) (x3 : List Vm.File) (x4 : List Int) : Option (Vm.Repo) :=
 (Vm.zcE x3).bind fun c =>
 (apM x0.Commits [Vm.Commit.mk x4 x2 c]).bind fun a =>
 (Vm.zbs (Vm.Repo.mk a x0.Heads) x1 (w64 ((a.length : Int) - 1))).bind fun b =>
 some (Vm.Repo.mk b.Commits b.Heads)
def zcb (x0 : Vm.Repo) (x1 : Vm.Repo) : Option (Vm.Repo × Bool) :=
 (Vm.zeG (Vm.Repo.mk x1.Commits x1.Heads)).bind fun b =>
 bif (!b) then
 ((Vm.zbc x0).bind fun a =>
 some (Vm.Repo.mk a.Commits a.Heads, false))
 else
 (some (Vm.Repo.mk x1.Commits x1.Heads, true))
def zbj (x0 : Vm.Repo) (x1 : Str) (x2 : Str) (x3 : List Vm.File) (x4 : List Vm.File) : Option (Vm.Repo × Int) :=
 (Vm.zcz x0 x1).bind fun b =>
 (Vm.zaF x0 b).bind fun g =>
 (Vm.zei x3 g x4).bind fun c =>
 bif (!c.2) then
 ((Vm.zbc x0).bind fun d =>
 some (Vm.Repo.mk d.Commits d.Heads, 4))
 else
 ((Vm.zbc x0).bind fun e =>
 (Vm.zbM (Vm.Repo.mk e.Commits e.Heads) x1 x2 c.1 ([b] : List Int)).bind fun f =>
 (Vm.zcb x0 (Vm.Repo.mk f.Commits f.Heads)).bind fun a =>
 bif (!a.2) then
 (some (Vm.Repo.mk a.1.Commits a.1.Heads, 5))
 else
 (some (Vm.Repo.mk a.1.Commits a.1.Heads, 0)))
def zcO (x0 : Vm.Repo) (x1 : Str) (x2 : Str) (x3 : Int) (x4 : Bool) : Option (Vm.Repo × Int) :=
 jn (fun (g : Bool) =>
 bif g then
 ((Vm.zbc x0).bind fun c =>
 some (Vm.Repo.mk c.Commits c.Heads, 1))
 else
 ((Vm.zb9 x0 x3).bind fun h =>
 (Vm.zaF x0 h).bind fun d =>
 (Vm.zaF x0 x3).bind fun e =>
 jn (fun (i : List Vm.File) (j : List Vm.File) =>
 (Vm.zbj x0 x1 x2 i j).bind fun a =>
 some (Vm.Repo.mk a.1.Commits a.1.Heads, a.2)) fun f =>
 bif x4 then
 (f e d)
 else
 (f d e))) fun b =>
 (Vm.zcz x0 x1).bind fun k =>
 bif decide ((k : Int) < (0 : Int)) then
 (b true)
 else
 ((Vm.zb0 x2).bind fun l =>
 bif (!l) then
 (b true)
 else
 ((Vm.zbC x0 x3).bind fun m =>
 b (!m)))
def zcP (x0 : Vm.Repo) (x1 : Str) (c : (List Int)) (j : Int → Int → List Vm.Commit → List Vm.Head → List Vm.Commit → List Vm.Head → Option (Vm.Repo × Int)) : Nat → Int → Int → List Vm.Commit → List Vm.Head → List Vm.Commit → List Vm.Head → Option (Vm.Repo × Int)
 | 0, _, _, _, _, _, _ => none
 | m + 1, d, a, e, f, g, h =>
 bif decide ((a : Int) < ((c.length : Int) : Int)) then
 (jn (fun (n : Int) (o : List Vm.Commit) (p : List Vm.Head) (q : List Vm.Commit) (r : List Vm.Head) =>
 zcP x0 x1 c j m n (w64 (a + 1)) o p q r) fun k =>
 (gi c a).bind fun i =>
 (gi x0.Commits i).bind fun s =>
 bif decide ((1 : Int) < ((s.Parents.length : Int) : Int)) then
 (k d e f g h)
 else
 ((gi x0.Commits i).bind fun t =>
 (Vm.zcO (Vm.Repo.mk g h) x1 t.Who i false).bind fun b =>
 bif ((b.2 : Int) != (0 : Int)) then
 ((Vm.zbc x0).bind fun l =>
 some (Vm.Repo.mk l.Commits l.Heads, b.2))
 else
 (k d e f b.1.Commits b.1.Heads)))
 else
 (j d a e f g h)
def zeT (x0 : Vm.Repo) (x1 : Str) (x2 : Int) : Option (Vm.Repo × Int) :=
 (Vm.zeG x0).bind fun g =>
 bif (!g) then
 (some (Vm.Repo.mk ([] : List Commit) ([] : List Head), 1))
 else
 ((Vm.zcz x0 x1).bind fun a =>
 jn (fun (h : Bool) =>
 bif h then
 ((Vm.zbc x0).bind fun b =>
 some (Vm.Repo.mk b.Commits b.Heads, 1))
 else
 ((Vm.zbc x0).bind fun c =>
 (Vm.zbs (Vm.Repo.mk c.Commits c.Heads) x1 x2).bind fun d =>
 (Vm.zer x0 a ([x2] : List Int)).bind fun e =>
 jn (fun (m : Int) (n : Int) (o : List Vm.Commit) (p : List Vm.Head) (i : List Vm.Commit) (j : List Vm.Head) =>
 some (Vm.Repo.mk i j, 0)) fun k =>
 zcP x0 x1 e k (((e.length : Int) - 0).toNat + 1) 0 0 ([] : List Commit) ([] : List Head) d.Commits d.Heads)) fun f =>
 bif decide ((a : Int) < (0 : Int)) then
 (f true)
 else
 ((Vm.zbC x0 x2).bind fun l =>
 f (!l)))
def zeJ (x0 : List Int) (c : Int → Int → Int → Option (Int)) : Nat → Int → Int → Int → Option (Int)
 | 0, _, _, _ => none
 | m + 1, b, d, a =>
 bif decide ((a : Int) < ((x0.length : Int) : Int)) then
 ((gi x0 a).bind fun e =>
 bif ((e : Int) != (b : Int)) then
 (some (-1))
 else
 (zeJ x0 c m (w64 (b + 1)) d (w64 (a + 1))))
 else
 (c b d a)
def zhr (x0 : List Int) (x1 : Int) : Option (Int) :=
 jn (fun (a : Int) (c : Int) (d : Int) =>
 some a) fun b =>
 zeJ x0 b (((x0.length : Int) - 0).toNat + 1) x1 0 0
def zea (x0 : List Vm.File) (c : Int → Int → Int → Option (Int)) : Nat → Int → Int → Int → Option (Int)
 | 0, _, _, _ => none
 | m + 1, b, d, a =>
 bif decide ((a : Int) < ((x0.length : Int) : Int)) then
 ((gi x0 a).bind fun f =>
 (Vm.za0 b).bind fun g =>
 bif (f.Path != g) then
 (some (-1))
 else
 ((gi x0 a).bind fun h =>
 (Vm.zcJ h.Text (w64 (b + 1))).bind fun e =>
 bif decide ((e : Int) < (0 : Int)) then
 (some (-1))
 else
 (zea x0 c m e d (w64 (a + 1)))))
 else
 (c b d a)
def zgA (x0 : List Vm.File) (x1 : Int) : Option (Int) :=
 jn (fun (a : Int) (c : Int) (d : Int) =>
 some a) fun b =>
 zea x0 b (((x0.length : Int) - 0).toNat + 1) x1 0 0
def zdk (x0 : List Vm.Commit) (c : Int → Int → Int → Option (Int)) : Nat → Int → Int → Int → Option (Int)
 | 0, _, _, _ => none
 | m + 1, d, e, a =>
 bif decide ((a : Int) < ((x0.length : Int) : Int)) then
 ((gi x0 a).bind fun g =>
 (Vm.zhr g.Parents d).bind fun b =>
 bif decide ((b : Int) < (0 : Int)) then
 (some (-1))
 else
 ((gi x0 a).bind fun h =>
 (Vm.za0 b).bind fun i =>
 bif (h.Who != i) then
 (some (-1))
 else
 ((gi x0 a).bind fun j =>
 (Vm.zgA j.Tree (w64 (b + 1))).bind fun f =>
 bif decide ((f : Int) < (0 : Int)) then
 (some (-1))
 else
 (zdk x0 c m f e (w64 (a + 1))))))
 else
 (c d e a)
def zfq (x0 : List Vm.Commit) (x1 : Int) : Option (Int) :=
 jn (fun (a : Int) (c : Int) (d : Int) =>
 some a) fun b =>
 zdk x0 b (((x0.length : Int) - 0).toNat + 1) x1 0 0
def zeb (x0 : List Vm.Head) (c : Int → Int → Int → Option (Int)) : Nat → Int → Int → Int → Option (Int)
 | 0, _, _, _ => none
 | m + 1, b, d, a =>
 bif decide ((a : Int) < ((x0.length : Int) : Int)) then
 ((gi x0 a).bind fun e =>
 (Vm.za0 b).bind fun f =>
 bif (e.Name != f) then
 (some (-1))
 else
 ((gi x0 a).bind fun g =>
 bif ((g.At : Int) != (w64 (b + 1) : Int)) then
 (some (-1))
 else
 (zeb x0 c m (w64 ((w64 (b + 1)) + 1)) d (w64 (a + 1)))))
 else
 (c b d a)
def zgB (x0 : List Vm.Head) (x1 : Int) : Option (Int) :=
 jn (fun (a : Int) (c : Int) (d : Int) =>
 some a) fun b =>
 zeb x0 b (((x0.length : Int) - 0).toNat + 1) x1 0 0
def zgh (x0 : Vm.Repo) (x1 : Int) : Option (Int) :=
 (Vm.zfq x0.Commits x1).bind fun a =>
 bif decide ((a : Int) < (0 : Int)) then
 (some (-1))
 else
 ((Vm.zgB x0.Heads a).bind fun b =>
 bif decide ((b : Int) < (0 : Int)) then
 (some (-1))
 else
 (some b))
def zc1 (x0 : Vm.Repo) (x1 : Str) (x2 : Int) : Option (Bool) :=
 bif decide ((1048576 : Int) < ((x1.length : Int) : Int)) then
 (some true)
 else
 ((Vm.zhS x0 1048576).bind fun n =>
 bif decide ((n : Int) < (0 : Int)) then
 (some true)
 else
 ((Vm.zd3 x0).bind fun g =>
 (Vm.zfx (Vm.Repo.mk g.Commits g.Heads) x1 x2).bind fun b =>
 (Vm.zd3 x0).bind fun c =>
 (Vm.zeT (Vm.Repo.mk c.Commits c.Heads) x1 x2).bind fun a =>
 jn (fun (o : Bool) =>
 bif o then
 (some false)
 else
 ((Vm.zd3 x0).bind fun h =>
 (Vm.zfI (Vm.Repo.mk c.Commits c.Heads) (Vm.Repo.mk h.Commits h.Heads)).bind fun p =>
 bif (!p) then
 (some false)
 else
 ((Vm.zfw (Vm.Repo.mk c.Commits c.Heads) 1).bind fun q =>
 jn (fun (r : Bool) =>
 bif r then
 (some false)
 else
 ((Vm.zfw (Vm.Repo.mk a.1.Commits a.1.Heads) 1).bind fun d =>
 (Vm.zgh (Vm.Repo.mk d.2.Commits d.2.Heads) 1).bind fun i =>
 bif decide ((i : Int) < (0 : Int)) then
 (some false)
 else
 (bif ((i : Int) != (d.1 : Int)) then
 (some false)
 else
 ((Vm.zd3 x0).bind fun j =>
 (Vm.zeT (Vm.Repo.mk j.Commits j.Heads) x1 x2).bind fun e =>
 jn (fun (s : Bool) =>
 bif s then
 (some false)
 else
 ((Vm.zgh (Vm.Repo.mk d.2.Commits d.2.Heads) 1).bind fun k =>
 bif decide ((k : Int) < (0 : Int)) then
 (some false)
 else
 (bif ((k : Int) != (d.1 : Int)) then
 (some false)
 else
 (some true)))) fun l =>
 (Vm.zfI (Vm.Repo.mk e.1.Commits e.1.Heads) b.1).bind fun t =>
 bif (!t) then
 (l true)
 else
 (l ((e.2 : Int) != (b.2 : Int))))))) fun f =>
 bif decide ((q.1 : Int) < (0 : Int)) then
 (f true)
 else
 ((Vm.zfI (Vm.Repo.mk a.1.Commits a.1.Heads) b.1).bind fun u =>
 bif (!u) then
 (f true)
 else
 (f ((a.2 : Int) != (b.2 : Int))))))) fun m =>
 (Vm.zfI (Vm.Repo.mk a.1.Commits a.1.Heads) b.1).bind fun v =>
 bif (!v) then
 (m true)
 else
 (m ((a.2 : Int) != (b.2 : Int)))))
end Go.Vm
