/- Models of the functions: plain Lean, printed by a program of ours. Conditions: none. -/
import Derived.Test.YtokbhelngoeblaaGreatDoorCLw
import Derived.Test.YtokbhelngoeblaaGreatDoorCM0
namespace Go.Vm
open Go Go.Sx
set_option linter.unusedVariables false
set_option linter.unusedSimpArgs false
def zdr (x0 : List Vm.File) (b : List Vm.File → Int → Option ((List Vm.File))) : Nat → List Vm.File → Int → Option ((List Vm.File))
 | 0, _, _ => none
 | m + 1, c, a =>
 bif decide ((a : Int) < ((x0.length : Int) : Int)) then
 ((gi x0 a).bind fun d =>
 (gi x0 a).bind fun e =>
 (apM ([] : List Str) e.Text).bind fun f =>
 (apM c [Vm.File.mk d.Path f]).bind fun g =>
 zdr x0 b m g (w64 (a + 1)))
 else
 (b c a)
def zdY (x0 : List Vm.File) : Option ((List Vm.File)) :=
 jn (fun (a : List Vm.File) (c : Int) =>
 some a) fun b =>
 zdr x0 b (((x0.length : Int) - 0).toNat + 1) ([] : List File) 0
def zdA (x0 : Vm.Commit) : Option (Vm.Commit) :=
 (apM ([] : List Int) x0.Parents).bind fun a =>
 (Vm.zdY x0.Tree).bind fun b =>
 some (Vm.Commit.mk a x0.Who b)
def zds (x0 : Vm.Repo) (c : Int → List Vm.Commit → List Vm.Head → Option (Vm.Repo)) : Nat → Int → List Vm.Commit → List Vm.Head → Option (Vm.Repo)
 | 0, _, _, _ => none
 | m + 1, a, d, e =>
 bif decide ((a : Int) < ((x0.Commits.length : Int) : Int)) then
 ((gi x0.Commits a).bind fun f =>
 (Vm.zdA f).bind fun b =>
 (apM d [Vm.Commit.mk b.Parents b.Who b.Tree]).bind fun g =>
 zds x0 c m (w64 (a + 1)) g e)
 else
 (c a d e)
def zbI (x0 : Vm.Repo) : Option (Vm.Repo) :=
 (apM ([] : List Head) x0.Heads).bind fun a =>
 jn (fun (e : Int) (b : List Vm.Commit) (c : List Vm.Head) =>
 some (Vm.Repo.mk b c)) fun d =>
 zds x0 d (((x0.Commits.length : Int) - 0).toNat + 1) 0 ([] : List Commit) a
def zdt (x0 : Vm.Repo) (x1 : Str) (x2 : Int) (e : Bool → Int → List Vm.Commit → List Vm.Head → Option (Vm.Repo)) : Nat → Bool → Int → List Vm.Commit → List Vm.Head → Option (Vm.Repo)
 | 0, _, _, _, _ => none
 | m + 1, b, a, c, d =>
 bif decide ((a : Int) < ((x0.Heads.length : Int) : Int)) then
 (jn (fun (l : Bool) (n : List Vm.Commit) (o : List Vm.Head) =>
 zdt x0 x1 x2 e m l (w64 (a + 1)) n o) fun f =>
 jn (fun (g : Bool) (h : List Vm.Commit) (i : List Vm.Head) =>
 (gi x0.Heads a).bind fun p =>
 bif (p.Name != x1) then
 ((gi x0.Heads a).bind fun q =>
 (apM i [q]).bind fun r =>
 f g h r)
 else
 (f g h i)) fun j =>
 jn (fun (s : Bool) =>
 bif s then
 ((apM d [Vm.Head.mk x1 x2]).bind fun t =>
 j true c t)
 else
 (j b c d)) fun k =>
 bif (!b) then
 ((gi x0.Heads a).bind fun u =>
 k (!Op.bytesLess u.Name x1))
 else
 (k false))
 else
 (e b a c d)
def zfJ (x0 : Vm.Repo) (x1 : Str) (x2 : Int) : Option (Vm.Repo) :=
 jn (fun (d : Bool) (i : Int) (a : List Vm.Commit) (b : List Vm.Head) =>
 jn (fun (e : List Vm.Commit) (f : List Vm.Head) =>
 some (Vm.Repo.mk e f)) fun c =>
 bif (!d) then
 ((apM b [Vm.Head.mk x1 x2]).bind fun g =>
 c a g)
 else
 (c a b)) fun h =>
 zdt x0 x1 x2 h (((x0.Heads.length : Int) - 0).toNat + 1) false 0 x0.Commits ([] : List Head)
def zaR (x2 : List Vm.File) (b : List Str → Int → Option ((List Str))) : Nat → List Str → Int → Option ((List Str))
 | 0, _, _ => none
 | m + 1, c, a =>
 bif decide ((a : Int) < ((x2.length : Int) : Int)) then
 ((gi x2 a).bind fun d =>
 (Vm.zdX c d.Path).bind fun e =>
 zaR x2 b m e (w64 (a + 1)))
 else
 (b c a)
def zbo (x1 : List Vm.File) (b : List Str → Int → Option ((List Str))) : Nat → List Str → Int → Option ((List Str))
 | 0, _, _ => none
 | m + 1, c, a =>
 bif decide ((a : Int) < ((x1.length : Int) : Int)) then
 ((gi x1 a).bind fun d =>
 (Vm.zdX c d.Path).bind fun e =>
 zbo x1 b m e (w64 (a + 1)))
 else
 (b c a)
def zcS (x0 : List Vm.File) (b : List Str → Int → Option ((List Str))) : Nat → List Str → Int → Option ((List Str))
 | 0, _, _ => none
 | m + 1, c, a =>
 bif decide ((a : Int) < ((x0.length : Int) : Int)) then
 ((gi x0 a).bind fun d =>
 (Vm.zdX c d.Path).bind fun e =>
 zcS x0 b m e (w64 (a + 1)))
 else
 (b c a)
def zgt (x0 : List Vm.File) (x1 : List Vm.File) (x2 : List Vm.File) : Option ((List Str)) :=
 jn (fun (a : List Str) (g : Int) =>
 jn (fun (b : List Str) (h : Int) =>
 jn (fun (c : List Str) (i : Int) =>
 some c) fun d =>
 zaR x2 d (((x2.length : Int) - 0).toNat + 1) b 0) fun e =>
 zbo x1 e (((x1.length : Int) - 0).toNat + 1) a 0) fun f =>
 zcS x0 f (((x0.length : Int) - 0).toNat + 1) ([] : List Str) 0
def zgh (x0 : List Str) (x1 : Bool) (x2 : List Str) (x3 : Bool) : Option (Bool) :=
 jn (fun (b : Bool) =>
 some b) fun a =>
 bif (x1 == x3) then
 (bif (!x1) then
 (a true)
 else
 ((Vm.zd3 x0 x2).bind fun c =>
 a c))
 else
 (a false)
def zhN (x0 : List Str) (x1 : List Str) (x2 : List Str) : Option (Vm.Part) :=
 jn (fun (c : Bool) =>
 bif c then
 ((apM ([] : List Str) x2).bind fun d =>
 some (Vm.Part.mk false d ([] : List Str) ([] : List Str) ([] : List Str)))
 else
 ((Vm.zd3 x2 x0).bind fun e =>
 bif e then
 ((apM ([] : List Str) x1).bind fun f =>
 some (Vm.Part.mk false f ([] : List Str) ([] : List Str) ([] : List Str)))
 else
 ((apM ([] : List Str) x0).bind fun g =>
 (apM ([] : List Str) x1).bind fun h =>
 (apM ([] : List Str) x2).bind fun i =>
 some (Vm.Part.mk true ([] : List Str) g h i)))) fun a =>
 (Vm.zd3 x1 x0).bind fun b =>
 bif b then
 (a b)
 else
 ((Vm.zd3 x1 x2).bind fun j =>
 a j)
def zik (x0 : List Vm.Part) (x1 : Vm.Part) : Option ((List Vm.Part)) :=
 jn (fun (d : Bool) =>
 bif d then
 (some x0)
 else
 (jn (fun (e : Bool) =>
 bif e then
 ((gi x0 (w64 ((x0.length : Int) - 1))).bind fun a =>
 (apM a.Lines x1.Lines).bind fun f =>
 (gi x0 (w64 ((x0.length : Int) - 1))).bind fun j =>
 (siM x0 (w64 ((x0.length : Int) - 1)) (Vm.Part.mk a.Clash f a.Old a.One a.Two)).bind fun g =>
 some g)
 else
 ((apM x0 [Vm.Part.mk x1.Clash x1.Lines x1.Old x1.One x1.Two]).bind fun h =>
 some h)) fun b =>
 bif decide ((0 : Int) < ((x0.length : Int) : Int)) then
 (bif (!x1.Clash) then
 ((gi x0 (w64 ((x0.length : Int) - 1))).bind fun i =>
 b (!i.Clash))
 else
 (b false))
 else
 (b false))) fun c =>
 bif (!x1.Clash) then
 (c (((x1.Lines.length : Int) : Int) == (0 : Int)))
 else
 (c false)
def zdp (x0 : List Str) (x1 : List Str) (x2 : List Str) (b : List Int) (d : List Int) (i : List Vm.Part → Int → Int → Int → Int → Option ((List Vm.Part))) : Nat → List Vm.Part → Int → Int → Int → Int → Option ((List Vm.Part))
 | 0, _, _, _, _, _ => none
 | m + 1, e, f, g, h, a =>
 bif decide ((a : Int) < ((b.length : Int) : Int)) then
 (jn (fun (o : List Vm.Part) (p : Int) (q : Int) (r : Int) =>
 zdp x0 x1 x2 b d i m o p q r (w64 (a + 1))) fun j =>
 jn (fun (s : Bool) =>
 bif s then
 (j e f g h)
 else
 ((slM x0 f a).bind fun t =>
 (gi b a).bind fun u =>
 (slM x1 g u).bind fun v =>
 (gi d a).bind fun w =>
 (slM x2 h w).bind fun x =>
 (Vm.zhN t v x).bind fun c =>
 (Vm.zik e (Vm.Part.mk c.Clash c.Lines c.Old c.One c.Two)).bind fun k =>
 jn (fun (y : List Vm.Part) =>
 (gi b a).bind fun z =>
 (gi d a).bind fun A =>
 j y (w64 (a + 1)) (w64 (z + 1)) (w64 (A + 1))) fun l =>
 bif decide ((a : Int) < ((x0.length : Int) : Int)) then
 ((gi x0 a).bind fun B =>
 (Vm.zik k (Vm.Part.mk false ([B] : List Str) ([] : List Str) ([] : List Str) ([] : List Str))).bind fun C =>
 l C)
 else
 (l k))) fun n =>
 (gi b a).bind fun D =>
 bif decide ((D : Int) < (0 : Int)) then
 (n true)
 else
 ((gi d a).bind fun E =>
 n (decide ((E : Int) < (0 : Int)))))
 else
 (i e f g h a)
def zkh (x0 : List Str) (x1 : List Str) (x2 : List Str) : Option ((List Vm.Part)) :=
 (Vm.zek x0 x1).bind fun b =>
 (apM b [(x1.length : Int)]).bind fun a =>
 (Vm.zek x0 x2).bind fun c =>
 (apM c [(x2.length : Int)]).bind fun d =>
 jn (fun (e : List Vm.Part) (g : Int) (h : Int) (i : Int) (j : Int) =>
 some e) fun f =>
 zdp x0 x1 x2 a d f (((a.length : Int) - 0).toNat + 1) ([] : List Part) 0 0 0 0
def zdu (x0 : List Vm.Part) (b : List Str → Bool → List Str → Int → Option ((List Str) × Bool)) : Nat → List Str → Bool → List Str → Int → Option ((List Str) × Bool)
 | 0, _, _, _, _ => none
 | m + 1, c, d, e, a =>
 bif decide ((a : Int) < ((x0.length : Int) : Int)) then
 ((gi x0 a).bind fun f =>
 bif f.Clash then
 (some (([] : List Str), false))
 else
 ((gi x0 a).bind fun g =>
 (apM e g.Lines).bind fun h =>
 zdu x0 b m c d h (w64 (a + 1))))
 else
 (b c d e a)
def zhO (x0 : List Vm.Part) : Option ((List Str) × Bool) :=
 jn (fun (d : List Str) (e : Bool) (a : List Str) (f : Int) =>
 (Vm.zdm a).bind fun b =>
 bif (!b) then
 (some (([] : List Str), false))
 else
 (some (a, true))) fun c =>
 zdu x0 c (((x0.length : Int) - 0).toNat + 1) ([] : List Str) false ([] : List Str) 0
def ziT (x0 : List Vm.File) (x1 : List Vm.File) (x2 : List Vm.File) (x3 : Str) : Option ((List Str) × Bool × Int) :=
 (Vm.zfb x0 x3).bind fun a =>
 (Vm.zfb x1 x3).bind fun b =>
 (Vm.zfb x2 x3).bind fun c =>
 jn (fun (h : Bool) =>
 bif h then
 (some (c.1, c.2, 0))
 else
 ((Vm.zgh c.1 c.2 a.1 a.2).bind fun i =>
 bif i then
 (some (b.1, b.2, 0))
 else
 (jn (fun (j : Bool) =>
 bif j then
 (some (a.1, a.2, 1))
 else
 (bif (!a.2) then
 (some (([] : List Str), false, 2))
 else
 ((Vm.zkh a.1 b.1 c.1).bind fun k =>
 (Vm.zhO k).bind fun d =>
 bif (!d.2) then
 (some (a.1, true, 3))
 else
 (some (d.1, true, 0))))) fun e =>
 bif (!b.2) then
 (e true)
 else
 (e (!c.2))))) fun f =>
 (Vm.zgh b.1 b.2 a.1 a.2).bind fun g =>
 bif g then
 (f g)
 else
 ((Vm.zgh b.1 b.2 c.1 c.2).bind fun l =>
 f l)
def zem (x0 : List Vm.File) (x1 : List Vm.File) (x2 : List Vm.File) (b : (List Str)) (f : List Vm.File → List Vm.Clash → Int → Option ((List Vm.File) × (List Vm.Clash))) : Nat → List Vm.File → List Vm.Clash → Int → Option ((List Vm.File) × (List Vm.Clash))
 | 0, _, _, _ => none
 | m + 1, d, e, a =>
 bif decide ((a : Int) < ((b.length : Int) : Int)) then
 (jn (fun (j : List Vm.File) (k : List Vm.Clash) =>
 zem x0 x1 x2 b f m j k (w64 (a + 1))) fun g =>
 (gi b a).bind fun l =>
 (Vm.ziT x0 x1 x2 l).bind fun c =>
 jn (fun (h : List Vm.Clash) =>
 bif c.2.1 then
 ((gi b a).bind fun n =>
 (apM ([] : List Str) c.1).bind fun o =>
 (apM d [Vm.File.mk n o]).bind fun p =>
 g p h)
 else
 (g d h)) fun i =>
 bif decide ((0 : Int) < (c.2.2 : Int)) then
 ((gi b a).bind fun q =>
 (apM e [Vm.Clash.mk q c.2.2]).bind fun r =>
 i r)
 else
 (i e))
 else
 (f d e a)
def zki (x0 : List Vm.File) (x1 : List Vm.File) (x2 : List Vm.File) : Option ((List Vm.File) × (List Vm.Clash)) :=
 (Vm.zgt x0 x1 x2).bind fun a =>
 jn (fun (b : List Vm.File) (c : List Vm.Clash) (e : Int) =>
 some (b, c)) fun d =>
 zem x0 x1 x2 a d (((a.length : Int) - 0).toNat + 1) ([] : List File) ([] : List Clash) 0
def zgU (x0 : List Vm.File) (x1 : List Vm.File) (x2 : List Vm.File) : Option ((List Vm.File) × (List Vm.Clash)) :=
 (Vm.zki x0 x1 x2).bind fun a =>
 jn (fun (c : Bool) =>
 bif c then
 ((Vm.zdY x0).bind fun d =>
 some (d, ([Vm.Clash.mk ([] : Str) 4] : List Clash)))
 else
 (some (a.1, a.2))) fun b =>
 bif (((a.2.length : Int) : Int) == (0 : Int)) then
 ((Vm.zeG a.1).bind fun e =>
 b (!e))
 else
 (b false)
def zeL (x0 : Vm.Repo) (x1 : Str) (x2 : Vm.Commit) : Option (Vm.Repo) :=
 (apM ([] : List Commit) x0.Commits).bind fun a =>
 (apM a [x2]).bind fun b =>
 (Vm.zfJ (Vm.Repo.mk b x0.Heads) x1 (x0.Commits.length : Int)).bind fun c =>
 some c
end Go.Vm
