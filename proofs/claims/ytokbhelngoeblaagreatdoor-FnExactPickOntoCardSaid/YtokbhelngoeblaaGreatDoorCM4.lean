/- Models of the functions: plain Lean, printed by a program of ours. Conditions: none. -/
import Derived.Test.YtokbhelngoeblaaGreatDoorCLw
import Derived.Test.YtokbhelngoeblaaGreatDoorCM0
import Derived.Test.YtokbhelngoeblaaGreatDoorCM1
namespace Go.Vm
open Go Go.Sx
set_option linter.unusedVariables false
set_option linter.unusedSimpArgs false
def zdB (x0 : List Vm.File) (b : List Vm.File → Int → Option ((List Vm.File))) : Nat → List Vm.File → Int → Option ((List Vm.File))
 | 0, _, _ => none
 | m + 1, c, a =>
 bif decide ((a : Int) < ((x0.length : Int) : Int)) then
 ((gi x0 a).bind fun d =>
 (Vm.zcc d.Text).bind fun e =>
 (apM c [Vm.File.mk d.Path e]).bind fun f =>
 zdB x0 b m f (w64 (a + 1)))
 else
 (b c a)
def zdo (x0 : List Vm.File) : Option ((List Vm.File)) :=
 jn (fun (a : List Vm.File) (c : Int) =>
 some a) fun b =>
 zdB x0 b (((x0.length : Int) - 0).toNat + 1) ([] : List File) 0
def zdC (x0 : Vm.Repo) (c : Int → List Vm.Commit → List Vm.Head → Option (Vm.Repo)) : Nat → Int → List Vm.Commit → List Vm.Head → Option (Vm.Repo)
 | 0, _, _, _ => none
 | m + 1, a, d, e =>
 bif decide ((a : Int) < ((x0.Commits.length : Int) : Int)) then
 ((gi x0.Commits a).bind fun b =>
 (apM ([] : List Int) b.Parents).bind fun f =>
 (Vm.zdo b.Tree).bind fun g =>
 (apM d [Vm.Commit.mk f b.Who g]).bind fun h =>
 zdC x0 c m (w64 (a + 1)) h e)
 else
 (c a d e)
def zbc (x0 : Vm.Repo) : Option (Vm.Repo) :=
 (apM ([] : List Head) x0.Heads).bind fun a =>
 jn (fun (e : Int) (b : List Vm.Commit) (c : List Vm.Head) =>
 some (Vm.Repo.mk b c)) fun d =>
 zdC x0 d (((x0.Commits.length : Int) - 0).toNat + 1) 0 ([] : List Commit) a
def zbp (x0 : List Vm.Head) (x1 : Int) (x2 : Vm.Head) : Option ((List Vm.Head)) :=
 if 0 ≤ x1 ∧ x1 ≤ x0.length ∧ x0.length + 1 ≤ lim then some (x0.take x1.toNat ++ [x2] ++ x0.drop x1.toNat) else none
def zd0 (x0 : List Vm.Head) (x1 : Vm.Head) (b : Int → Option ((List Vm.Head))) : Nat → Int → Option ((List Vm.Head))
 | 0, _ => none
 | m + 1, a =>
 jn (fun (e : Bool) =>
 bif e then
 (zd0 x0 x1 b m (w64 (a - 1)))
 else
 (b a)) fun c =>
 bif decide ((0 : Int) < (a : Int)) then
 ((gi x0 (w64 (a - 1))).bind fun d =>
 c (!(Op.bytesLess d.Name x1.Name || d.Name == x1.Name)))
 else
 (c false)
def zfz (x0 : List Vm.Head) (x1 : Vm.Head) : Option ((List Vm.Head)) :=
 jn (fun (a : Int) =>
 (apM ([] : List Head) x0).bind fun b =>
 (Vm.zbp b a x1).bind fun c =>
 some c) fun d =>
 zd0 x0 x1 d (x0.length + 1) (x0.length : Int)
def zbq (x0 : Vm.Repo) (x1 : Str) (x2 : Int) (c : Int → List Vm.Commit → List Vm.Head → List Vm.Head → Option (Vm.Repo)) : Nat → Int → List Vm.Commit → List Vm.Head → List Vm.Head → Option (Vm.Repo)
 | 0, _, _, _, _ => none
 | m + 1, a, d, e, b =>
 bif decide ((a : Int) < ((x0.Heads.length : Int) : Int)) then
 ((gi b a).bind fun f =>
 bif (f.Name == x1) then
 ((gi b a).bind fun g =>
 (siM b a (Vm.Head.mk g.Name x2)).bind fun h =>
 some (Vm.Repo.mk x0.Commits h))
 else
 (zbq x0 x1 x2 c m (w64 (a + 1)) d e b))
 else
 (c a d e b)
def zbx (x0 : Vm.Repo) (x1 : Str) (x2 : Int) : Option (Vm.Repo) :=
 jn (fun (d : Int) (e : List Vm.Commit) (f : List Vm.Head) (a : List Vm.Head) =>
 (Vm.zfz a (Vm.Head.mk x1 x2)).bind fun b =>
 some (Vm.Repo.mk x0.Commits b)) fun c =>
 zbq x0 x1 x2 c (((x0.Heads.length : Int) - 0).toNat + 1) 0 ([] : List Commit) ([] : List Head) x0.Heads
def zgi (x0 : List Vm.File) (x1 : List Vm.File) (x2 : List Vm.File) : Option (Bool) :=
 jn (fun (b : Bool) =>
 some b) fun a =>
 (Vm.zc5 x0).bind fun c =>
 bif c then
 ((Vm.zc5 x1).bind fun d =>
 bif d then
 ((Vm.zc5 x2).bind fun e =>
 a e)
 else
 (a false))
 else
 (a false)
def zdD (b : List Vm.File) (c : List Str → Int → Option ((List Str))) : Nat → List Str → Int → Option ((List Str))
 | 0, _, _ => none
 | m + 1, d, a =>
 bif decide ((a : Int) < ((b.length : Int) : Int)) then
 ((gi b a).bind fun e =>
 (apM d [e.Path]).bind fun f =>
 zdD b c m f (w64 (a + 1)))
 else
 (c d a)
def zbN (x0 : List (List Vm.File)) (b : List Str → Int → Option ((List Str))) : Nat → List Str → Int → Option ((List Str))
 | 0, _, _ => none
 | m + 1, c, a =>
 bif decide ((a : Int) < ((x0.length : Int) : Int)) then
 ((gi x0 a).bind fun d =>
 jn (fun (e : List Str) (g : Int) =>
 zbN x0 b m e (w64 (a + 1))) fun f =>
 zdD d f (((d.length : Int) - 0).toNat + 1) c 0)
 else
 (b c a)
def zhg (x0 : List (List Vm.File)) : Option ((List Str)) :=
 jn (fun (a : List Str) (e : Int) =>
 (Vm.zax a).bind fun b =>
 (Vm.zbn b).bind fun c =>
 some c) fun d =>
 zbN x0 d (((x0.length : Int) - 0).toNat + 1) ([] : List Str) 0
def ziW (x0 : List Vm.File) (x1 : Str) : Option (Vm.has) :=
 (Vm.zg8 x0 x1).bind fun a =>
 some (Vm.has.mk a.1 a.2)
def zfE (x0 : Vm.has) (x1 : Vm.has) : Option (Bool) :=
 jn (fun (b : Bool) =>
 some b) fun a =>
 bif (x0.file == x1.file) then
 ((Vm.zaH x0.text x1.text).bind fun c =>
 a c)
 else
 (a false)
def zhh (x0 : List Str) (x1 : List Str) (x2 : List Str) : Option (Bool) :=
 jn (fun (b : Bool) =>
 some b) fun a =>
 (Vm.zcn x0).bind fun c =>
 bif c then
 ((Vm.zcn x1).bind fun d =>
 bif d then
 ((Vm.zcn x2).bind fun e =>
 a e)
 else
 (a false))
 else
 (a false)
def zdn (x0 : List Str) (x1 : List Vm.Part) : Option ((List Vm.Part)) :=
 bif (((x0.length : Int) : Int) == (0 : Int)) then
 (some x1)
 else
 (jn (fun (b : Int) (c : List Vm.Part) =>
 (gi c b).bind fun a =>
 (apM a.Lines x0).bind fun f =>
 (gi c b).bind fun k =>
 (siM c b (Vm.Part.mk a.Clash f a.Old a.One a.Two)).bind fun g =>
 some g) fun d =>
 jn (fun (h : Bool) =>
 bif h then
 ((apM x1 ([Vm.Part.mk false ([] : List Str) ([] : List Str) ([] : List Str) ([] : List Str)])).bind fun i =>
 d (w64 ((w64 ((x1.length : Int) - 1)) + 1)) i)
 else
 (d (w64 ((x1.length : Int) - 1)) x1)) fun e =>
 bif decide ((w64 ((x1.length : Int) - 1) : Int) < (0 : Int)) then
 (e true)
 else
 ((gi x1 (w64 ((x1.length : Int) - 1))).bind fun j =>
 e j.Clash))
def zby (x0 : List Str) (x1 : List Str) (x2 : List Str) (b : List Int) (d : List Int) (l : Int → Int → Int → Int → List Vm.Part → Option ((List Vm.Part))) : Nat → Int → Int → Int → Int → List Vm.Part → Option ((List Vm.Part))
 | 0, _, _, _, _, _ => none
 | m + 1, g, h, i, a, c =>
 bif decide ((a : Int) < ((b.length : Int) : Int)) then
 (jn (fun (s : Int) (t : Int) (u : Int) (v : List Vm.Part) =>
 zby x0 x1 x2 b d l m s t u (w64 (a + 1)) v) fun n =>
 jn (fun (w : Bool) =>
 bif w then
 (n g h i c)
 else
 ((slM x0 g a).bind fun j =>
 (gi b a).bind fun x =>
 (slM x1 h x).bind fun e =>
 (gi d a).bind fun y =>
 (slM x2 i y).bind fun f =>
 jn (fun (o : List Vm.Part) =>
 jn (fun (z : List Vm.Part) =>
 (gi b a).bind fun A =>
 (gi d a).bind fun B =>
 n (w64 (a + 1)) (w64 (A + 1)) (w64 (B + 1)) z) fun p =>
 bif decide ((a : Int) < ((x0.length : Int) : Int)) then
 ((slM x0 a (w64 (a + 1))).bind fun C =>
 (Vm.zdn C o).bind fun D =>
 p D)
 else
 (p o)) fun k =>
 jn (fun (E : Bool) =>
 bif E then
 ((Vm.zdn f c).bind fun F =>
 k F)
 else
 ((Vm.zaH f j).bind fun G =>
 bif G then
 ((Vm.zdn e c).bind fun H =>
 k H)
 else
 ((Vm.zcc j).bind fun I =>
 (Vm.zcc e).bind fun J =>
 (Vm.zcc f).bind fun K =>
 (apM c ([Vm.Part.mk true ([] : List Str) I J K])).bind fun L =>
 k L))) fun q =>
 (Vm.zaH e j).bind fun M =>
 bif M then
 (q true)
 else
 ((Vm.zaH e f).bind fun N =>
 q N))) fun r =>
 (gi b a).bind fun O =>
 bif decide ((O : Int) < (0 : Int)) then
 (r true)
 else
 ((gi d a).bind fun P =>
 r (decide ((P : Int) < (0 : Int)))))
 else
 (l g h i a c)
def zij (x0 : List Str) (x1 : List Str) (x2 : List Str) : Option ((List Vm.Part)) :=
 (Vm.zgn x0 x1).bind fun b =>
 (apM b [(x1.length : Int)]).bind fun a =>
 (Vm.zgn x0 x2).bind fun c =>
 (apM c [(x2.length : Int)]).bind fun d =>
 jn (fun (g : Int) (h : Int) (i : Int) (j : Int) (e : List Vm.Part) =>
 some e) fun f =>
 zby x0 x1 x2 a d f (((a.length : Int) - 0).toNat + 1) 0 0 0 0 ([] : List Part)
def zgX (x0 : Vm.Part) : Option ((List Str) × Bool) :=
 some (([] : List Str), false)
def zaI (b : (List Vm.Part)) (f : List Str → Bool → List Str → Int → Option ((List Str) × Bool)) : Nat → List Str → Bool → List Str → Int → Option ((List Str) × Bool)
 | 0, _, _, _, _ => none
 | m + 1, c, d, g, a =>
 bif decide ((a : Int) < ((b.length : Int) : Int)) then
 ((gi b a).bind fun e =>
 jn (fun (j : List Str) (k : Bool) (l : List Str) =>
 (apM g l).bind fun n =>
 zaI b f m j k n (w64 (a + 1))) fun h =>
 bif e.Clash then
 ((Vm.zgX e).bind fun i =>
 bif (!i.2) then
 (some (([] : List Str), false))
 else
 (h c d i.1))
 else
 (h c d e.Lines))
 else
 (f c d g a)
def zcb (x0 : List Str) (x1 : List Str) (x2 : List Str) : Option ((List Str) × Bool) :=
 (Vm.zhh x0 x1 x2).bind fun c =>
 bif (!c) then
 (some (([] : List Str), false))
 else
 ((Vm.zij x0 x1 x2).bind fun a =>
 jn (fun (f : List Str) (g : Bool) (b : List Str) (h : Int) =>
 (Vm.zcn b).bind fun d =>
 bif (!d) then
 (some (([] : List Str), false))
 else
 (some (b, true))) fun e =>
 zaI a e (((a.length : Int) - 0).toNat + 1) ([] : List Str) false ([] : List Str) 0)
def zfZ (x0 : List Str) (x1 : List Str) (x2 : List Str) : Option ((List Str) × Bool) :=
 (Vm.zcb x0 x1 x2).bind fun a =>
 some (a.1, a.2)
def zjq (x0 : Vm.has) (x1 : Vm.has) (x2 : Vm.has) : Option (Vm.has × Int) :=
 jn (fun (d : Bool) =>
 bif d then
 (some (x2, 0))
 else
 ((Vm.zfE x2 x0).bind fun e =>
 bif e then
 (some (x1, 0))
 else
 (jn (fun (f : Bool) =>
 bif f then
 (some (x0, 1))
 else
 (bif (!x0.file) then
 (some (x0, 2))
 else
 ((Vm.zfZ x0.text x1.text x2.text).bind fun a =>
 bif (!a.2) then
 (some (x0, 3))
 else
 (some (Vm.has.mk a.1 true, 0))))) fun b =>
 bif (!x1.file) then
 (b true)
 else
 (b (!x2.file))))) fun c =>
 (Vm.zfE x1 x0).bind fun g =>
 bif g then
 (c true)
 else
 ((Vm.zfE x1 x2).bind fun h =>
 c h)
def zej (x0 : List Vm.File) (x1 : List Vm.File) (x2 : List Vm.File) (d : (List Str)) (g : List Vm.File → List Vm.Clash → Int → Option ((List Vm.File) × (List Vm.Clash))) : Nat → List Vm.File → List Vm.Clash → Int → Option ((List Vm.File) × (List Vm.Clash))
 | 0, _, _, _ => none
 | m + 1, e, f, b =>
 bif decide ((b : Int) < ((d.length : Int) : Int)) then
 (jn (fun (o : List Vm.File) (p : List Vm.Clash) =>
 zej x0 x1 x2 d g m o p (w64 (b + 1))) fun h =>
 (gi d b).bind fun a =>
 (Vm.ziW x0 a).bind fun i =>
 (Vm.ziW x1 a).bind fun j =>
 (Vm.ziW x2 a).bind fun k =>
 (Vm.zjq (Vm.has.mk i.text i.file) (Vm.has.mk j.text j.file) (Vm.has.mk k.text k.file)).bind fun c =>
 jn (fun (l : List Vm.Clash) =>
 bif c.1.file then
 ((apM e [Vm.File.mk a c.1.text]).bind fun q =>
 h q l)
 else
 (h e l)) fun n =>
 bif ((c.2 : Int) != (0 : Int)) then
 ((apM f [Vm.Clash.mk a c.2]).bind fun r =>
 n r)
 else
 (n f))
 else
 (g e f b)
def zjr (x0 : List Vm.File) (x1 : List Vm.File) (x2 : List Vm.File) : Option ((List Vm.File) × (List Vm.Clash)) :=
 (Vm.zgi x0 x1 x2).bind fun e =>
 bif (!e) then
 (some (([] : List File), ([] : List Clash)))
 else
 ((Vm.zhg ([x0, x1, x2] : List (List File))).bind fun a =>
 jn (fun (b : List Vm.File) (c : List Vm.Clash) (j : Int) =>
 jn (fun (f : Bool) =>
 bif f then
 ((Vm.zdo x0).bind fun g =>
 some (g, ([Vm.Clash.mk ([] : Str) 4] : List Clash)))
 else
 (some (b, c))) fun d =>
 bif (((c.length : Int) : Int) == (0 : Int)) then
 ((Vm.zc5 b).bind fun h =>
 d (!h))
 else
 (d false)) fun i =>
 zej x0 x1 x2 a i (((a.length : Int) - 0).toNat + 1) ([] : List File) ([] : List Clash) 0)
def zdU (x0 : List Vm.File) (x1 : List Vm.File) (x2 : List Vm.File) : Option ((List Vm.File) × Bool) :=
 (Vm.zgi x0 x1 x2).bind fun b =>
 bif (!b) then
 (some (([] : List File), false))
 else
 ((Vm.zjr x0 x1 x2).bind fun a =>
 bif decide ((0 : Int) < ((a.2.length : Int) : Int)) then
 (some (([] : List File), false))
 else
 (some (a.1, true)))
def zbO (x0 : Vm.Repo) (x1 : Str) (x2 : Str) (x3 : List Vm.File) (x4 : List Int) : Option (Vm.Repo) :=
 (Vm.zdo x3).bind fun c =>
 (apM x0.Commits [Vm.Commit.mk x4 x2 c]).bind fun a =>
 (Vm.zbx (Vm.Repo.mk a x0.Heads) x1 (w64 ((a.length : Int) - 1))).bind fun b =>
 some (Vm.Repo.mk b.Commits b.Heads)
def zb6 (x0 : Vm.Repo) (x1 : Vm.Repo) : Option (Vm.Repo × Bool) :=
 (Vm.zeT (Vm.Repo.mk x1.Commits x1.Heads)).bind fun b =>
 bif (!b) then
 ((Vm.zbc x0).bind fun a =>
 some (Vm.Repo.mk a.Commits a.Heads, false))
 else
 (some (Vm.Repo.mk x1.Commits x1.Heads, true))
def zhQ (x0 : List Int) (c : Int → Int → Int → Option (Int)) : Nat → Int → Int → Int → Option (Int)
 | 0, _, _, _ => none
 | m + 1, b, d, a =>
 bif decide ((a : Int) < ((x0.length : Int) : Int)) then
 ((gi x0 a).bind fun e =>
 bif ((e : Int) != (b : Int)) then
 (some (-1))
 else
 (zhQ x0 c m (w64 (b + 1)) d (w64 (a + 1))))
 else
 (c b d a)
def zlE (x0 : List Int) (x1 : Int) : Option (Int) :=
 jn (fun (a : Int) (c : Int) (d : Int) =>
 some a) fun b =>
 zhQ x0 b (((x0.length : Int) - 0).toNat + 1) x1 0 0
def zgY (x0 : List Vm.File) (c : Int → Int → Int → Option (Int)) : Nat → Int → Int → Int → Option (Int)
 | 0, _, _, _ => none
 | m + 1, b, d, a =>
 bif decide ((a : Int) < ((x0.length : Int) : Int)) then
 ((gi x0 a).bind fun f =>
 (Vm.zcd b).bind fun g =>
 bif (f.Path != g) then
 (some (-1))
 else
 ((gi x0 a).bind fun h =>
 (Vm.zeX h.Text (w64 (b + 1))).bind fun e =>
 bif decide ((e : Int) < (0 : Int)) then
 (some (-1))
 else
 (zgY x0 c m e d (w64 (a + 1)))))
 else
 (c b d a)
def zkt (x0 : List Vm.File) (x1 : Int) : Option (Int) :=
 jn (fun (a : Int) (c : Int) (d : Int) =>
 some a) fun b =>
 zgY x0 b (((x0.length : Int) - 0).toNat + 1) x1 0 0
def zfK (x0 : List Vm.Commit) (c : Int → Int → Int → Option (Int)) : Nat → Int → Int → Int → Option (Int)
 | 0, _, _, _ => none
 | m + 1, d, e, a =>
 bif decide ((a : Int) < ((x0.length : Int) : Int)) then
 ((gi x0 a).bind fun g =>
 (Vm.zlE g.Parents d).bind fun b =>
 bif decide ((b : Int) < (0 : Int)) then
 (some (-1))
 else
 ((gi x0 a).bind fun h =>
 (Vm.zcd b).bind fun i =>
 bif (h.Who != i) then
 (some (-1))
 else
 ((gi x0 a).bind fun j =>
 (Vm.zkt j.Tree (w64 (b + 1))).bind fun f =>
 bif decide ((f : Int) < (0 : Int)) then
 (some (-1))
 else
 (zfK x0 c m f e (w64 (a + 1))))))
 else
 (c d e a)
def ziX (x0 : List Vm.Commit) (x1 : Int) : Option (Int) :=
 jn (fun (a : Int) (c : Int) (d : Int) =>
 some a) fun b =>
 zfK x0 b (((x0.length : Int) - 0).toNat + 1) x1 0 0
def zgZ (x0 : List Vm.Head) (c : Int → Int → Int → Option (Int)) : Nat → Int → Int → Int → Option (Int)
 | 0, _, _, _ => none
 | m + 1, b, d, a =>
 bif decide ((a : Int) < ((x0.length : Int) : Int)) then
 ((gi x0 a).bind fun e =>
 (Vm.zcd b).bind fun f =>
 bif (e.Name != f) then
 (some (-1))
 else
 ((gi x0 a).bind fun g =>
 bif ((g.At : Int) != (w64 (b + 1) : Int)) then
 (some (-1))
 else
 (zgZ x0 c m (w64 ((w64 (b + 1)) + 1)) d (w64 (a + 1)))))
 else
 (c b d a)
def zku (x0 : List Vm.Head) (x1 : Int) : Option (Int) :=
 jn (fun (a : Int) (c : Int) (d : Int) =>
 some a) fun b =>
 zgZ x0 b (((x0.length : Int) - 0).toNat + 1) x1 0 0
def zh7 (x0 : Vm.Repo) (x1 : Int) : Option (Int) :=
 (Vm.ziX x0.Commits x1).bind fun a =>
 bif decide ((a : Int) < (0 : Int)) then
 (some (-1))
 else
 ((Vm.zku x0.Heads a).bind fun b =>
 bif decide ((b : Int) < (0 : Int)) then
 (some (-1))
 else
 (some b))
end Go.Vm
