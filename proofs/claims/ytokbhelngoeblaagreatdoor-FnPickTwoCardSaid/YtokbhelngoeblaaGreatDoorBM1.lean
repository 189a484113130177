/- Models of the functions: zm0 Lean, printed by a program of ours. Conditions: none. -/
import Derived.Test.YtokbhelngoeblaaGreatDoorBLw
import Derived.Test.YtokbhelngoeblaaGreatDoorBM0
namespace Go.Vm
open Go Go.Sx
set_option linter.unusedVariables false
set_option linter.unusedSimpArgs false
def zcS (x0 : List Byte) : Option (Vm.Repo × Str × Str × Int) :=
 (Vm.zdx x0).bind fun c =>
 (Vm.zds c).bind fun a =>
 (Vm.zbY (Vm.l30Rd.mk c.b a.2) ([([109, 97, 105, 110] : Str), ([115, 105, 100, 101] : Str), ([100, 101, 118] : Str), ([110, 111, 110, 101] : Str)] : List Str)).bind fun d =>
 (Vm.zbY (Vm.l30Rd.mk c.b d.2) ([([97, 110, 110] : Str), ([97, 110, 110] : Str), ([] : Str)] : List Str)).bind fun e =>
 (Vm.zgD (Vm.l30Rd.mk c.b e.2) (Vm.Repo.mk a.1.Commits a.1.Heads)).bind fun f =>
 some (Vm.Repo.mk a.1.Commits a.1.Heads, d.1, e.1, f.1)
def zc0 (x0 : Vm.Repo) (x1 : Str) (b : Int → Int → Option (Int)) : Nat → Int → Int → Option (Int)
 | 0, _, _ => none
 | m + 1, c, a =>
 bif decide ((a : Int) < ((x0.Heads.length : Int) : Int)) then
 ((gi x0.Heads a).bind fun d =>
 bif (d.Name == x1) then
 (some d.At)
 else
 (zc0 x0 x1 b m c (w64 (a + 1))))
 else
 (b c a)
def zfA (x0 : Vm.Repo) (x1 : Str) : Option (Int) :=
 jn (fun (b : Int) (c : Int) =>
 some (-1)) fun a =>
 zc0 x0 x1 a (((x0.Heads.length : Int) - 0).toNat + 1) 0 0
def zck (x0 : Vm.Repo) (c : Int → List Vm.Commit → List Vm.Head → Option (Vm.Repo)) : Nat → Int → List Vm.Commit → List Vm.Head → Option (Vm.Repo)
 | 0, _, _, _ => none
 | m + 1, a, d, e =>
 bif decide ((a : Int) < ((x0.Commits.length : Int) : Int)) then
 ((gi x0.Commits a).bind fun b =>
 (apM ([] : List Int) b.Parents).bind fun f =>
 (Vm.zbm b.Tree).bind fun g =>
 (apM d [Vm.Commit.mk f b.Who g]).bind fun h =>
 zck x0 c m (w64 (a + 1)) h e)
 else
 (c a d e)
def zbn (x0 : Vm.Repo) : Option (Vm.Repo) :=
 (apM ([] : List Head) x0.Heads).bind fun a =>
 jn (fun (e : Int) (b : List Vm.Commit) (c : List Vm.Head) =>
 some (Vm.Repo.mk b c)) fun d =>
 zck x0 d (((x0.Commits.length : Int) - 0).toNat + 1) 0 ([] : List Commit) a
def zbJ (x0 : Vm.Repo) (x1 : Int) : Option (Int) :=
 (gi x0.Commits x1).bind fun a =>
 bif (((a.Parents.length : Int) : Int) == (0 : Int)) then
 (some (-1))
 else
 ((gi x0.Commits x1).bind fun b =>
 (gi b.Parents 0).bind fun c =>
 some c)
def zaZ (x0 : List Vm.Head) (x1 : Int) (x2 : Vm.Head) : Option ((List Vm.Head)) :=
 if 0 ≤ x1 ∧ x1 ≤ x0.length ∧ x0.length + 1 ≤ lim then some (x0.take x1.toNat ++ [x2] ++ x0.drop x1.toNat) else none
def zdl (x0 : List Vm.Head) (x1 : Vm.Head) (b : Int → Option ((List Vm.Head))) : Nat → Int → Option ((List Vm.Head))
 | 0, _ => none
 | m + 1, a =>
 jn (fun (e : Bool) =>
 bif e then
 (zdl x0 x1 b m (w64 (a - 1)))
 else
 (b a)) fun c =>
 bif decide ((0 : Int) < (a : Int)) then
 ((gi x0 (w64 (a - 1))).bind fun d =>
 c (!(Op.bytesLess d.Name x1.Name || d.Name == x1.Name)))
 else
 (c false)
def zeA (x0 : List Vm.Head) (x1 : Vm.Head) : Option ((List Vm.Head)) :=
 jn (fun (a : Int) =>
 (apM ([] : List Head) x0).bind fun b =>
 (Vm.zaZ b a x1).bind fun c =>
 some c) fun d =>
 zdl x0 x1 d (x0.length + 1) (x0.length : Int)
def zaV (x0 : Vm.Repo) (x1 : Str) (x2 : Int) (c : Int → List Vm.Commit → List Vm.Head → List Vm.Head → Option (Vm.Repo)) : Nat → Int → List Vm.Commit → List Vm.Head → List Vm.Head → Option (Vm.Repo)
 | 0, _, _, _, _ => none
 | m + 1, a, d, e, b =>
 bif decide ((a : Int) < ((x0.Heads.length : Int) : Int)) then
 ((gi b a).bind fun f =>
 bif (f.Name == x1) then
 ((gi b a).bind fun g =>
 (siM b a (Vm.Head.mk g.Name x2)).bind fun h =>
 some (Vm.Repo.mk x0.Commits h))
 else
 (zaV x0 x1 x2 c m (w64 (a + 1)) d e b))
 else
 (c a d e b)
def zbp (x0 : Vm.Repo) (x1 : Str) (x2 : Int) : Option (Vm.Repo) :=
 jn (fun (d : Int) (e : List Vm.Commit) (f : List Vm.Head) (a : List Vm.Head) =>
 (Vm.zeA a (Vm.Head.mk x1 x2)).bind fun b =>
 some (Vm.Repo.mk x0.Commits b)) fun c =>
 zaV x0 x1 x2 c (((x0.Heads.length : Int) - 0).toNat + 1) 0 ([] : List Commit) ([] : List Head) x0.Heads
def zbs (x0 : Vm.Repo) (x1 : Str) (x2 : Str) (x3 : List Vm.File) (x4 : List Int) : Option (Vm.Repo) :=
 (Vm.zbm x3).bind fun c =>
 (apM x0.Commits [Vm.Commit.mk x4 x2 c]).bind fun a =>
 (Vm.zbp (Vm.Repo.mk a x0.Heads) x1 (w64 ((a.length : Int) - 1))).bind fun b =>
 some (Vm.Repo.mk b.Commits b.Heads)
def zbK (x0 : Vm.Repo) (x1 : Vm.Repo) : Option (Vm.Repo × Bool) :=
 (Vm.zdc (Vm.Repo.mk x1.Commits x1.Heads)).bind fun b =>
 bif (!b) then
 ((Vm.zbn x0).bind fun a =>
 some (Vm.Repo.mk a.Commits a.Heads, false))
 else
 (some (Vm.Repo.mk x1.Commits x1.Heads, true))
def za4 (x0 : Vm.Repo) (x1 : Str) (x2 : Str) (x3 : List Vm.File) (x4 : List Vm.File) : Option (Vm.Repo × Int) :=
 (Vm.zfA x0 x1).bind fun b =>
 (Vm.zat x0 b).bind fun g =>
 (Vm.zb8 x3 g x4).bind fun c =>
 bif (!c.2) then
 ((Vm.zbn x0).bind fun d =>
 some (Vm.Repo.mk d.Commits d.Heads, 4))
 else
 ((Vm.zbn x0).bind fun e =>
 (Vm.zbs (Vm.Repo.mk e.Commits e.Heads) x1 x2 c.1 ([b] : List Int)).bind fun f =>
 (Vm.zbK x0 (Vm.Repo.mk f.Commits f.Heads)).bind fun a =>
 bif (!a.2) then
 (some (Vm.Repo.mk a.1.Commits a.1.Heads, 5))
 else
 (some (Vm.Repo.mk a.1.Commits a.1.Heads, 0)))
def zel (x0 : Vm.Repo) (x1 : Str) (x2 : Str) (x3 : Int) (x4 : Bool) : Option (Vm.Repo × Int) :=
 jn (fun (g : Bool) =>
 bif g then
 ((Vm.zbn x0).bind fun c =>
 some (Vm.Repo.mk c.Commits c.Heads, 1))
 else
 ((Vm.zbJ x0 x3).bind fun h =>
 (Vm.zat x0 h).bind fun d =>
 (Vm.zat x0 x3).bind fun e =>
 jn (fun (i : List Vm.File) (j : List Vm.File) =>
 (Vm.za4 x0 x1 x2 i j).bind fun a =>
 some (Vm.Repo.mk a.1.Commits a.1.Heads, a.2)) fun f =>
 bif x4 then
 (f e d)
 else
 (f d e))) fun b =>
 (Vm.zfA x0 x1).bind fun k =>
 bif decide ((k : Int) < (0 : Int)) then
 (b true)
 else
 ((Vm.zeE x2).bind fun l =>
 bif (!l) then
 (b true)
 else
 ((Vm.zbh x0 x3).bind fun m =>
 b (!m)))
def zdz (x0 : List Int) (x1 : List Int) (b : Bool → Int → Option (Bool)) : Nat → Bool → Int → Option (Bool)
 | 0, _, _ => none
 | m + 1, c, a =>
 bif decide ((a : Int) < ((x0.length : Int) : Int)) then
 ((gi x0 a).bind fun d =>
 (gi x1 a).bind fun e =>
 bif ((d : Int) != (e : Int)) then
 (some false)
 else
 (zdz x0 x1 b m c (w64 (a + 1))))
 else
 (b c a)
def zgz (x0 : List Int) (x1 : List Int) : Option (Bool) :=
 bif (((x0.length : Int) : Int) != ((x1.length : Int) : Int)) then
 (some false)
 else
 (jn (fun (b : Bool) (c : Int) =>
 some true) fun a =>
 zdz x0 x1 a (((x0.length : Int) - 0).toNat + 1) false 0)
def zfg (x0 : Vm.Commit) (x1 : Vm.Commit) : Option (Bool) :=
 jn (fun (b : Bool) =>
 some b) fun a =>
 bif (x0.Who == x1.Who) then
 ((Vm.zgz x0.Parents x1.Parents).bind fun c =>
 bif c then
 ((Vm.zdL x0.Tree x1.Tree).bind fun d =>
 a d)
 else
 (a false))
 else
 (a false)
def zdA (x0 : Vm.Repo) (x1 : Vm.Repo) (b : Bool → Int → Option (Bool)) : Nat → Bool → Int → Option (Bool)
 | 0, _, _ => none
 | m + 1, c, a =>
 bif decide ((a : Int) < ((x0.Heads.length : Int) : Int)) then
 ((gi x0.Heads a).bind fun d =>
 (gi x1.Heads a).bind fun e =>
 bif (!(d.Name == e.Name && d.At == e.At)) then
 (some false)
 else
 (zdA x0 x1 b m c (w64 (a + 1))))
 else
 (b c a)
def zdB (x0 : Vm.Repo) (x1 : Vm.Repo) (b : Bool → Int → Option (Bool)) : Nat → Bool → Int → Option (Bool)
 | 0, _, _ => none
 | m + 1, c, a =>
 bif decide ((a : Int) < ((x0.Commits.length : Int) : Int)) then
 ((gi x0.Commits a).bind fun d =>
 (gi x1.Commits a).bind fun e =>
 (Vm.zfg d e).bind fun f =>
 bif (!f) then
 (some false)
 else
 (zdB x0 x1 b m c (w64 (a + 1))))
 else
 (b c a)
def zew (x0 : Vm.Repo) (x1 : Vm.Repo) : Option (Bool) :=
 jn (fun (b : Bool) =>
 bif b then
 (some false)
 else
 (jn (fun (c : Bool) (f : Int) =>
 jn (fun (g : Bool) (h : Int) =>
 some true) fun d =>
 zdA x0 x1 d (((x0.Heads.length : Int) - 0).toNat + 1) c 0) fun e =>
 zdB x0 x1 e (((x0.Commits.length : Int) - 0).toNat + 1) false 0)) fun a =>
 bif (((x0.Commits.length : Int) : Int) != ((x1.Commits.length : Int) : Int)) then
 (a true)
 else
 (a (((x0.Heads.length : Int) : Int) != ((x1.Heads.length : Int) : Int)))
def zex (x0 : Vm.Repo) (x1 : Str) : Option (Int) :=
 (Vm.zdc x0).bind fun a =>
 bif (!a) then
 (some (-1))
 else
 ((Vm.zfA x0 x1).bind fun b =>
 some b)
end Go.Vm
