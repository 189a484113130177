/- Models of the functions: zm0 Lean, printed by a program of ours. Conditions: none. -/
import Derived.Test.YtokbhelngoeblaaGreatDoorBLw
import Derived.Test.YtokbhelngoeblaaGreatDoorBM0
namespace Go.Vm
open Go Go.Sx
set_option linter.unusedVariables false
set_option linter.unusedSimpArgs false
def zhP (x0 : List Byte) : Option (Vm.Repo × Int × Int) :=
 (Vm.zdx x0).bind fun c =>
 (Vm.zds c).bind fun a =>
 (Vm.zgD (Vm.l30Rd.mk c.b a.2) (Vm.Repo.mk a.1.Commits a.1.Heads)).bind fun d =>
 (Vm.zgD (Vm.l30Rd.mk c.b d.2) (Vm.Repo.mk a.1.Commits a.1.Heads)).bind fun e =>
 some (Vm.Repo.mk a.1.Commits a.1.Heads, d.1, e.1)
def zfB (x0 : List Byte) : Option (Vm.Repo × Int × Int) :=
 (Vm.zhP x0).bind fun a =>
 some (Vm.Repo.mk a.1.Commits a.1.Heads, a.2.1, a.2.2)
def ze8 (x0 : Vm.Repo) (x1 : List Int) (b : Bool → Int → Option (Bool)) : Nat → Bool → Int → Option (Bool)
 | 0, _, _ => none
 | m + 1, c, a =>
 bif decide ((a : Int) < ((x1.length : Int) : Int)) then
 ((gi x1 a).bind fun d =>
 (Vm.zbh x0 d).bind fun e =>
 bif (!e) then
 (some false)
 else
 (ze8 x0 x1 b m c (w64 (a + 1))))
 else
 (b c a)
def zhL (x0 : Vm.Repo) (x1 : List Int) : Option (Bool) :=
 (Vm.zdc x0).bind fun a =>
 bif (!a) then
 (some false)
 else
 (jn (fun (c : Bool) (d : Int) =>
 some true) fun b =>
 ze8 x0 x1 b (((x1.length : Int) - 0).toNat + 1) false 0)
def zcU (d : List Bool → Option ((List Bool))) (a : Vm.Commit)  : Nat → Int → List Bool → Option ((List Bool))
 | 0, _, _ => none
 | m + 1, b, c =>
 bif decide ((b : Int) < ((a.Parents.length : Int) : Int)) then
 ((gi a.Parents b).bind fun e =>
 (gi c e).bind fun g =>
 (siM c e true).bind fun f =>
 zcU d a m (w64 (b + 1)) f)
 else
 (d c)
def zbP (x0 : Vm.Repo) (c : Int → List Bool → Option ((List Bool))) : Nat → Int → List Bool → Option ((List Bool))
 | 0, _, _ => none
 | m + 1, a, b =>
 bif decide ((0 : Int) ≤ (a : Int)) then
 (jn (fun (f : List Bool) =>
 zbP x0 c m (w64 (a - 1)) f) fun d =>
 (gi b a).bind fun g =>
 bif g then
 ((gi x0.Commits a).bind fun e =>
 zcU d e (((e.Parents.length : Int) - 0).toNat + 1) 0 b)
 else
 (d b))
 else
 (c a b)
def zdt (x0 : Vm.Repo) (x1 : Int) : Option ((List Bool)) :=
 (mkM (x0.Commits.length : Int) (false : Bool)).bind fun a =>
 (gi a x1).bind fun e =>
 (siM a x1 true).bind fun b =>
 jn (fun (f : Int) (c : List Bool) =>
 some c) fun d =>
 zbP x0 d ((x1 + 1 - 0).toNat + 1) x1 b
def zdw (x0 : List Bool) : Option ((List Bool)) :=
 if x0.length ≤ lim then some x0 else none
def zf4 (x0 : List Bool) (c : List Int → Int → Option ((List Int))) : Nat → List Int → Int → Option ((List Int))
 | 0, _, _ => none
 | m + 1, b, a =>
 bif decide ((a : Int) < ((x0.length : Int) : Int)) then
 (jn (fun (e : List Int) =>
 zf4 x0 c m e (w64 (a + 1))) fun d =>
 (gi x0 a).bind fun f =>
 bif f then
 ((apM b [a]).bind fun g =>
 d g)
 else
 (d b))
 else
 (c b a)
def zeF (x0 : List Bool) : Option ((List Int)) :=
 jn (fun (a : List Int) (c : Int) =>
 some a) fun b =>
 zf4 x0 b (((x0.length : Int) - 0).toNat + 1) ([] : List Int) 0
def zem (e : Int) (c : (List Int)) (f : Int → List Bool → Option ((List Int))) : Nat → Int → List Bool → Option ((List Int))
 | 0, _, _ => none
 | m + 1, a, b =>
 bif decide ((a : Int) < ((c.length : Int) : Int)) then
 (jn (fun (h : List Bool) =>
 zem e c f m (w64 (a + 1)) h) fun g =>
 (gi c a).bind fun d =>
 bif ((d : Int) != (e : Int)) then
 ((gi b d).bind fun j =>
 (siM b d false).bind fun i =>
 g i)
 else
 (g b))
 else
 (f a b)
def zcf (x0 : Vm.Repo) (b : (List Int)) (c : Int → List Bool → Option ((List Int))) : Nat → Int → List Bool → Option ((List Int))
 | 0, _, _ => none
 | m + 1, a, d =>
 bif decide ((a : Int) < ((b.length : Int) : Int)) then
 ((gi b a).bind fun e =>
 (Vm.zdt x0 e).bind fun g =>
 (Vm.zeF g).bind fun f =>
 jn (fun (j : Int) (h : List Bool) =>
 zcf x0 b c m (w64 (a + 1)) h) fun i =>
 zem e f i (((f.length : Int) - 0).toNat + 1) 0 d)
 else
 (c a d)
def zd1 (c : (List Bool)) (d : (List Bool)) (e : List Bool) (f : Int → List Bool → Option ((List Int))) : Nat → Int → List Bool → Option ((List Int))
 | 0, _, _ => none
 | m + 1, a, b =>
 bif decide ((a : Int) < ((e.length : Int) : Int)) then
 ((gi c a).bind fun g =>
 bif g then
 ((gi d a).bind fun h =>
 (gi b a).bind fun k =>
 (siM b a h).bind fun i =>
 zd1 c d e f m (w64 (a + 1)) i)
 else
 ((gi b a).bind fun l =>
 (siM b a false).bind fun j =>
 zd1 c d e f m (w64 (a + 1)) j))
 else
 (f a b)
def zg4 (x0 : Vm.Repo) (x1 : Int) (x2 : Int) : Option ((List Int)) :=
 (Vm.zdt x0 x1).bind fun d =>
 (Vm.zdt x0 x2).bind fun e =>
 (mkM (x0.Commits.length : Int) (false : Bool)).bind fun a =>
 jn (fun (k : Int) (b : List Bool) =>
 (Vm.zdw b).bind fun f =>
 (Vm.zeF b).bind fun c =>
 jn (fun (l : Int) (g : List Bool) =>
 (Vm.zeF g).bind fun h =>
 some h) fun i =>
 zcf x0 c i (((c.length : Int) - 0).toNat + 1) 0 f) fun j =>
 zd1 d e a j (((a.length : Int) - 0).toNat + 1) 0 a
def zfC (x0 : Vm.Repo) (x1 : Int) (x2 : Int) : Option ((List Vm.File)) :=
 (Vm.zg4 x0 x1 x2).bind fun a =>
 bif (((a.length : Int) : Int) == (0 : Int)) then
 (some ([] : List File))
 else
 ((gi a (w64 ((a.length : Int) - 1))).bind fun b =>
 (Vm.zat x0 b).bind fun c =>
 some c)
def zgZ (x0 : Vm.Repo) (x1 : Int) (x2 : Int) : Option ((List Vm.File) × Bool) :=
 (Vm.zhL x0 ([x1, x2] : List Int)).bind fun b =>
 bif (!b) then
 (some (([] : List File), false))
 else
 ((Vm.zfC x0 x1 x2).bind fun c =>
 (Vm.zat x0 x1).bind fun d =>
 (Vm.zat x0 x2).bind fun e =>
 (Vm.zb8 c d e).bind fun a =>
 some (a.1, a.2))
def zhQ (x0 : Vm.Repo) (x1 : Int) (x2 : Int) : Option ((List Vm.File) × Bool) :=
 jn (fun (c : Bool) =>
 bif c then
 (some (([] : List File), false))
 else
 ((gi x0.Commits x1).bind fun d =>
 (gi x0.Commits x2).bind fun e =>
 (Vm.zfN x0 x1 x2).bind fun f =>
 (Vm.zfo f d.Tree e.Tree).bind fun b =>
 bif decide ((0 : Int) < ((b.2.length : Int) : Int)) then
 (some (([] : List File), false))
 else
 ((Vm.zdr b.1).bind fun g =>
 some (g, true)))) fun a =>
 (Vm.zcY x0).bind fun h =>
 bif (!h) then
 (a true)
 else
 ((Vm.zfj x1 0 (w64 ((x0.Commits.length : Int) - 1))).bind fun i =>
 bif (!i) then
 (a true)
 else
 ((Vm.zfj x2 0 (w64 ((x0.Commits.length : Int) - 1))).bind fun j =>
 a (!j)))
def zkp (x0 : Vm.Repo) (x1 : Int) (x2 : Int) : Option (Bool) :=
 jn (fun (b : Bool) =>
 some b) fun a =>
 (Vm.zhL x0 ([x1, x2] : List Int)).bind fun c =>
 bif c then
 ((Vm.zdt x0 x2).bind fun d =>
 (gi d x1).bind fun e =>
 a e)
 else
 (a false)
def zhs (x0 : List Byte) : Option (Bool) :=
 bif decide ((1048576 : Int) < ((x0.length : Int) : Int)) then
 (some true)
 else
 ((Vm.zfB x0).bind fun a =>
 (Vm.zgZ (Vm.Repo.mk a.1.Commits a.1.Heads) a.2.1 a.2.2).bind fun b =>
 (Vm.zhQ (Vm.Repo.mk a.1.Commits a.1.Heads) a.2.1 a.2.2).bind fun e =>
 jn (fun (h : Bool) =>
 bif h then
 (jn (fun (i : Bool) =>
 some i) fun f =>
 bif (b.2 == e.2) then
 ((Vm.zdL b.1 e.1).bind fun j =>
 f j)
 else
 (f false))
 else
 ((Vm.zgZ (Vm.Repo.mk a.1.Commits a.1.Heads) a.2.2 a.2.1).bind fun g =>
 (Vm.zdv (Vm.Repo.mk a.1.Commits a.1.Heads) a.2.2).bind fun k =>
 jn (fun (l : Bool) =>
 some l) fun d =>
 bif (g.2 == b.2) then
 ((Vm.zdL g.1 b.1).bind fun m =>
 bif m then
 ((Vm.zkp (Vm.Repo.mk a.1.Commits a.1.Heads) a.2.1 a.2.2).bind fun n =>
 bif (!n) then
 (d true)
 else
 (bif b.2 then
 ((Vm.zdL b.1 k.1).bind fun o =>
 d o)
 else
 (d false)))
 else
 (d false))
 else
 (d false))) fun c =>
 bif (b.2 != e.2) then
 (c true)
 else
 ((Vm.zdL b.1 e.1).bind fun p =>
 bif (!p) then
 (c true)
 else
 ((Vm.zdc (Vm.Repo.mk a.1.Commits a.1.Heads)).bind fun q =>
 bif (!q) then
 (c true)
 else
 (bif decide ((a.2.1 : Int) < (0 : Int)) then
 (c true)
 else
 (bif decide ((a.2.2 : Int) < (0 : Int)) then
 (c true)
 else
 (bif decide (((a.1.Commits.length : Int) : Int) ≤ (a.2.1 : Int)) then
 (c true)
 else
 (c (decide (((a.1.Commits.length : Int) : Int) ≤ (a.2.2 : Int))))))))))
end Go.Vm
