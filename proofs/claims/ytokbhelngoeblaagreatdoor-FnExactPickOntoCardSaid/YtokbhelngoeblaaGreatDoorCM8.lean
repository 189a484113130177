/- Models of the functions: plain Lean, printed by a program of ours. Conditions: none. -/
import Derived.Test.YtokbhelngoeblaaGreatDoorCLw
import Derived.Test.YtokbhelngoeblaaGreatDoorCM0
import Derived.Test.YtokbhelngoeblaaGreatDoorCM1
import Derived.Test.YtokbhelngoeblaaGreatDoorCM2
import Derived.Test.YtokbhelngoeblaaGreatDoorCM4
import Derived.Test.YtokbhelngoeblaaGreatDoorCM5
namespace Go.Vm
open Go Go.Sx
set_option linter.unusedVariables false
set_option linter.unusedSimpArgs false
def zf0 (d : (List Int)) (b : (List Int)) (e : List Int → Int → Option ((List Int))) : Nat → List Int → Int → Option ((List Int))
 | 0, _, _ => none
 | m + 1, c, a =>
 bif decide ((a : Int) < ((b.length : Int) : Int)) then
 (jn (fun (g : List Int) =>
 zf0 d b e m g (w64 (a + 1))) fun f =>
 (gi b a).bind fun h =>
 (Vm.zfq d h).bind fun i =>
 bif (!i) then
 ((gi b a).bind fun j =>
 (apM c [j]).bind fun k =>
 f k)
 else
 (f c))
 else
 (e c a)
def zlp (x0 : Vm.Repo) (x1 : Int) (x2 : Int) : Option ((List Int)) :=
 jn (fun (c : Bool) =>
 bif c then
 (some ([] : List Int))
 else
 ((Vm.zeK x0 x1).bind fun d =>
 (Vm.zeK x0 x2).bind fun b =>
 jn (fun (e : List Int) (j : Int) =>
 some e) fun f =>
 zf0 d b f (((b.length : Int) - 0).toNat + 1) ([] : List Int) 0)) fun a =>
 (Vm.zc7 x0).bind fun g =>
 bif (!g) then
 (a true)
 else
 ((Vm.zeE x1 0 (w64 ((x0.Commits.length : Int) - 1))).bind fun h =>
 bif (!h) then
 (a true)
 else
 ((Vm.zeE x2 0 (w64 ((x0.Commits.length : Int) - 1))).bind fun i =>
 a (!i)))
def ze3 (x0 : Vm.Repo) (x1 : Str) (b : (List Int)) (i : Int → Int → List Vm.Commit → List Vm.Head → List Vm.Commit → List Vm.Head → Option (Vm.Repo × Int)) : Nat → Int → Int → List Vm.Commit → List Vm.Head → List Vm.Commit → List Vm.Head → Option (Vm.Repo × Int)
 | 0, _, _, _, _, _, _ => none
 | m + 1, f, a, g, h, c, d =>
 bif decide ((a : Int) < ((b.length : Int) : Int)) then
 (jn (fun (n : Int) (o : List Vm.Commit) (p : List Vm.Head) (q : List Vm.Commit) (r : List Vm.Head) =>
 ze3 x0 x1 b i m n (w64 (a + 1)) o p q r) fun j =>
 (gi b a).bind fun s =>
 (gi x0.Commits s).bind fun k =>
 bif decide ((1 : Int) < ((k.Parents.length : Int) : Int)) then
 (j f g h c d)
 else
 ((gi b a).bind fun t =>
 (Vm.zcM (Vm.Repo.mk c d) t).bind fun u =>
 (gi b a).bind fun v =>
 (gi c v).bind fun w =>
 (Vm.zdZ (Vm.Repo.mk c d) x1 k.Who u w.Tree).bind fun e =>
 bif ((e.2 : Int) != (0 : Int)) then
 ((Vm.zbI x0).bind fun l =>
 some (Vm.Repo.mk l.Commits l.Heads, e.2))
 else
 (j f g h e.1.Commits e.1.Heads)))
 else
 (i f a g h c d)
def zjk (x0 : Vm.Repo) (x1 : Str) (x2 : Int) : Option (Vm.Repo × Int) :=
 (Vm.zc7 x0).bind fun f =>
 bif (!f) then
 (some (Vm.Repo.mk ([] : List Commit) ([] : List Head), 1))
 else
 (jn (fun (g : Bool) =>
 bif g then
 ((Vm.zbI x0).bind fun a =>
 some (Vm.Repo.mk a.Commits a.Heads, 1))
 else
 ((Vm.zc8 x0 x1).bind fun h =>
 (Vm.zlp x0 x2 h).bind fun b =>
 (Vm.zbI x0).bind fun c =>
 (Vm.zfJ (Vm.Repo.mk c.Commits c.Heads) x1 x2).bind fun d =>
 jn (fun (n : Int) (o : Int) (p : List Vm.Commit) (q : List Vm.Head) (i : List Vm.Commit) (j : List Vm.Head) =>
 some (Vm.Repo.mk i j, 0)) fun k =>
 ze3 x0 x1 b k (((b.length : Int) - 0).toNat + 1) 0 0 ([] : List Commit) ([] : List Head) d.Commits d.Heads)) fun e =>
 (Vm.zc8 x0 x1).bind fun l =>
 bif decide ((l : Int) < (0 : Int)) then
 (e true)
 else
 ((Vm.zeE x2 0 (w64 ((x0.Commits.length : Int) - 1))).bind fun m =>
 e (!m)))
def zd1 (b : (List Int)) (d : Int → List Bool → Option ((List Int))) : Nat → Int → List Bool → Option ((List Int))
 | 0, _, _ => none
 | m + 1, a, c =>
 bif decide ((a : Int) < ((b.length : Int) : Int)) then
 ((gi b a).bind fun e =>
 (gi c e).bind fun g =>
 (siM c e false).bind fun f =>
 zd1 b d m (w64 (a + 1)) f)
 else
 (d a c)
def zdh (x0 : Vm.Repo) (x2 : List Int) (b : Int → List Bool → Option ((List Int))) : Nat → Int → List Bool → Option ((List Int))
 | 0, _, _ => none
 | m + 1, a, c =>
 bif decide ((a : Int) < ((x2.length : Int) : Int)) then
 ((gi x2 a).bind fun e =>
 (Vm.zaQ x0 e).bind fun f =>
 (Vm.zbg f).bind fun d =>
 jn (fun (i : Int) (g : List Bool) =>
 zdh x0 x2 b m (w64 (a + 1)) g) fun h =>
 zd1 d h (((d.length : Int) - 0).toNat + 1) 0 c)
 else
 (b a c)
def zhq (x0 : Vm.Repo) (x1 : Int) (x2 : List Int) : Option ((List Int)) :=
 (Vm.zaQ x0 x1).bind fun a =>
 jn (fun (e : Int) (b : List Bool) =>
 (Vm.zbg b).bind fun c =>
 some c) fun d =>
 zdh x0 x2 d (((x2.length : Int) - 0).toNat + 1) 0 a
def zed (x0 : Vm.Repo) (x1 : Int) : Option (Int) :=
 (gi x0.Commits x1).bind fun a =>
 bif (((a.Parents.length : Int) : Int) == (0 : Int)) then
 (some (-1))
 else
 ((gi x0.Commits x1).bind fun b =>
 (gi b.Parents 0).bind fun c =>
 some c)
def zcX (x0 : Vm.Repo) (x1 : Str) (x2 : Str) (x3 : List Vm.File) (x4 : List Vm.File) : Option (Vm.Repo × Int) :=
 (Vm.zcO x0 x1).bind fun b =>
 (Vm.zaN x0 b).bind fun g =>
 (Vm.zdU x3 g x4).bind fun c =>
 bif (!c.2) then
 ((Vm.zbc x0).bind fun d =>
 some (Vm.Repo.mk d.Commits d.Heads, 4))
 else
 ((Vm.zbc x0).bind fun e =>
 (Vm.zbO (Vm.Repo.mk e.Commits e.Heads) x1 x2 c.1 ([b] : List Int)).bind fun f =>
 (Vm.zb6 x0 (Vm.Repo.mk f.Commits f.Heads)).bind fun a =>
 bif (!a.2) then
 (some (Vm.Repo.mk a.1.Commits a.1.Heads, 5))
 else
 (some (Vm.Repo.mk a.1.Commits a.1.Heads, 0)))
def ze4 (x0 : Vm.Repo) (x1 : Str) (x2 : Str) (x3 : Int) (x4 : Bool) : Option (Vm.Repo × Int) :=
 jn (fun (g : Bool) =>
 bif g then
 ((Vm.zbc x0).bind fun c =>
 some (Vm.Repo.mk c.Commits c.Heads, 1))
 else
 ((Vm.zed x0 x3).bind fun h =>
 (Vm.zaN x0 h).bind fun d =>
 (Vm.zaN x0 x3).bind fun e =>
 jn (fun (i : List Vm.File) (j : List Vm.File) =>
 (Vm.zcX x0 x1 x2 i j).bind fun a =>
 some (Vm.Repo.mk a.1.Commits a.1.Heads, a.2)) fun f =>
 bif x4 then
 (f e d)
 else
 (f d e))) fun b =>
 (Vm.zcO x0 x1).bind fun k =>
 bif decide ((k : Int) < (0 : Int)) then
 (b true)
 else
 ((Vm.zc4 x2).bind fun l =>
 bif (!l) then
 (b true)
 else
 ((Vm.zbZ x0 x3).bind fun m =>
 b (!m)))
def ze5 (x0 : Vm.Repo) (x1 : Str) (c : (List Int)) (j : Int → Int → List Vm.Commit → List Vm.Head → List Vm.Commit → List Vm.Head → Option (Vm.Repo × Int)) : Nat → Int → Int → List Vm.Commit → List Vm.Head → List Vm.Commit → List Vm.Head → Option (Vm.Repo × Int)
 | 0, _, _, _, _, _, _ => none
 | m + 1, d, a, e, f, g, h =>
 bif decide ((a : Int) < ((c.length : Int) : Int)) then
 (jn (fun (n : Int) (o : List Vm.Commit) (p : List Vm.Head) (q : List Vm.Commit) (r : List Vm.Head) =>
 ze5 x0 x1 c j m n (w64 (a + 1)) o p q r) fun k =>
 (gi c a).bind fun i =>
 (gi x0.Commits i).bind fun s =>
 bif decide ((1 : Int) < ((s.Parents.length : Int) : Int)) then
 (k d e f g h)
 else
 ((gi x0.Commits i).bind fun t =>
 (Vm.ze4 (Vm.Repo.mk g h) x1 t.Who i false).bind fun b =>
 bif ((b.2 : Int) != (0 : Int)) then
 ((Vm.zbc x0).bind fun l =>
 some (Vm.Repo.mk l.Commits l.Heads, b.2))
 else
 (k d e f b.1.Commits b.1.Heads)))
 else
 (j d a e f g h)
def zh8 (x0 : Vm.Repo) (x1 : Str) (x2 : Int) : Option (Vm.Repo × Int) :=
 (Vm.zeT x0).bind fun g =>
 bif (!g) then
 (some (Vm.Repo.mk ([] : List Commit) ([] : List Head), 1))
 else
 ((Vm.zcO x0 x1).bind fun a =>
 jn (fun (h : Bool) =>
 bif h then
 ((Vm.zbc x0).bind fun b =>
 some (Vm.Repo.mk b.Commits b.Heads, 1))
 else
 ((Vm.zbc x0).bind fun c =>
 (Vm.zbx (Vm.Repo.mk c.Commits c.Heads) x1 x2).bind fun d =>
 (Vm.zhq x0 a ([x2] : List Int)).bind fun e =>
 jn (fun (m : Int) (n : Int) (o : List Vm.Commit) (p : List Vm.Head) (i : List Vm.Commit) (j : List Vm.Head) =>
 some (Vm.Repo.mk i j, 0)) fun k =>
 ze5 x0 x1 e k (((e.length : Int) - 0).toNat + 1) 0 0 ([] : List Commit) ([] : List Head) d.Commits d.Heads)) fun f =>
 bif decide ((a : Int) < (0 : Int)) then
 (f true)
 else
 ((Vm.zbZ x0 x2).bind fun l =>
 f (!l)))
def zfk (x0 : Vm.Repo) (x1 : Str) (x2 : Int) : Option (Bool) :=
 bif decide ((1048576 : Int) < ((x1.length : Int) : Int)) then
 (some true)
 else
 ((Vm.zln x0 1048576).bind fun n =>
 bif decide ((n : Int) < (0 : Int)) then
 (some true)
 else
 ((Vm.zeU x0).bind fun g =>
 (Vm.zjk (Vm.Repo.mk g.Commits g.Heads) x1 x2).bind fun b =>
 (Vm.zeU x0).bind fun c =>
 (Vm.zh8 (Vm.Repo.mk c.Commits c.Heads) x1 x2).bind fun a =>
 jn (fun (o : Bool) =>
 bif o then
 (some false)
 else
 ((Vm.zeU x0).bind fun h =>
 (Vm.zgg (Vm.Repo.mk c.Commits c.Heads) (Vm.Repo.mk h.Commits h.Heads)).bind fun p =>
 bif (!p) then
 (some false)
 else
 ((Vm.zhb (Vm.Repo.mk c.Commits c.Heads) 1).bind fun q =>
 jn (fun (r : Bool) =>
 bif r then
 (some false)
 else
 ((Vm.zhb (Vm.Repo.mk a.1.Commits a.1.Heads) 1).bind fun d =>
 (Vm.zh7 (Vm.Repo.mk d.2.Commits d.2.Heads) 1).bind fun i =>
 bif decide ((i : Int) < (0 : Int)) then
 (some false)
 else
 (bif ((i : Int) != (d.1 : Int)) then
 (some false)
 else
 ((Vm.zeU x0).bind fun j =>
 (Vm.zh8 (Vm.Repo.mk j.Commits j.Heads) x1 x2).bind fun e =>
 jn (fun (s : Bool) =>
 bif s then
 (some false)
 else
 ((Vm.zh7 (Vm.Repo.mk d.2.Commits d.2.Heads) 1).bind fun k =>
 bif decide ((k : Int) < (0 : Int)) then
 (some false)
 else
 (bif ((k : Int) != (d.1 : Int)) then
 (some false)
 else
 (some true)))) fun l =>
 (Vm.zgg (Vm.Repo.mk e.1.Commits e.1.Heads) b.1).bind fun t =>
 bif (!t) then
 (l true)
 else
 (l ((e.2 : Int) != (b.2 : Int))))))) fun f =>
 bif decide ((q.1 : Int) < (0 : Int)) then
 (f true)
 else
 ((Vm.zgg (Vm.Repo.mk a.1.Commits a.1.Heads) b.1).bind fun u =>
 bif (!u) then
 (f true)
 else
 (f ((a.2 : Int) != (b.2 : Int))))))) fun m =>
 (Vm.zgg (Vm.Repo.mk a.1.Commits a.1.Heads) b.1).bind fun v =>
 bif (!v) then
 (m true)
 else
 (m ((a.2 : Int) != (b.2 : Int)))))
end Go.Vm
