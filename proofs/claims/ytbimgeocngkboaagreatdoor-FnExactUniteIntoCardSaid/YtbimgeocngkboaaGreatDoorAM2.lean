/- Models of the functions: plain Lean, printed by a program of ours. Conditions: none. -/
import Derived.Test.YtbimgeocngkboaaGreatDoorALw
import Derived.Test.YtbimgeocngkboaaGreatDoorAM0
namespace Go.Vm
open Go Go.Sx
set_option linter.unusedVariables false
set_option linter.unusedSimpArgs false
def spec_l8All_l2 (x0 : Vm.Repo) (a : Int) (d : Int → List Bool → Option ((List Int))) : Nat → Int → List Bool → Option ((List Int))
 | 0, _, _ => none
 | m + 1, b, c =>
 jn (fun (g : Bool) =>
 bif g then
 ((gi x0.Commits a).bind fun h =>
 (gi h.Parents b).bind fun e =>
 (gi c e).bind fun l =>
 (siM c e true).bind fun i =>
 spec_l8All_l2 x0 a d m (w64 (b + 1)) i)
 else
 (d b c)) fun f =>
 (gi x0.Commits a).bind fun j =>
 bif decide ((b : Int) < ((j.Parents.length : Int) : Int)) then
 ((gi c a).bind fun k =>
 f k)
 else
 (f false)
def spec_l8All_l3 (b : List Bool) (d : List Int → Int → Option ((List Int))) : Nat → List Int → Int → Option ((List Int))
 | 0, _, _ => none
 | m + 1, c, a =>
 bif decide ((a : Int) < ((b.length : Int) : Int)) then
 (jn (fun (f : List Int) =>
 spec_l8All_l3 b d m f (w64 (a + 1))) fun e =>
 (gi b a).bind fun g =>
 bif g then
 ((apM c [a]).bind fun h =>
 e h)
 else
 (e c))
 else
 (d c a)
def spec_l8All_l1 (x0 : Vm.Repo) (b : Int → List Bool → Option ((List Int))) : Nat → Int → List Bool → Option ((List Int))
 | 0, _, _ => none
 | m + 1, a, c =>
 bif decide ((0 : Int) ≤ (a : Int)) then
 (jn (fun (f : Int) (d : List Bool) =>
 spec_l8All_l1 x0 b m (w64 (a - 1)) d) fun e =>
 spec_l8All_l2 x0 a e (4) 0 c)
 else
 (b a c)
def spec_l8All (x0 : Vm.Repo) (x1 : Int) : Option ((List Int)) :=
 (mkM (x0.Commits.length : Int) (false : Bool)).bind fun a =>
 (gi a x1).bind fun g =>
 (siM a x1 true).bind fun c =>
 jn (fun (h : Int) (b : List Bool) =>
 jn (fun (d : List Int) (i : Int) =>
 some d) fun e =>
 spec_l8All_l3 b e (((b.length : Int) - 0).toNat + 1) ([] : List Int) 0) fun f =>
 spec_l8All_l1 x0 f ((x1 + 1 - 0).toNat + 1) x1 c
def spec_l8Has_l1 (x0 : List Int) (x1 : Int) (b : Bool → Int → Option (Bool)) : Nat → Bool → Int → Option (Bool)
 | 0, _, _ => none
 | m + 1, c, a =>
 bif decide ((a : Int) < ((x0.length : Int) : Int)) then
 ((gi x0 a).bind fun d =>
 bif ((d : Int) == (x1 : Int)) then
 (some true)
 else
 (spec_l8Has_l1 x0 x1 b m c (w64 (a + 1))))
 else
 (b c a)
def spec_l8Has (x0 : List Int) (x1 : Int) : Option (Bool) :=
 jn (fun (b : Bool) (c : Int) =>
 some false) fun a =>
 spec_l8Has_l1 x0 x1 a (((x0.length : Int) - 0).toNat + 1) false 0
def spec_l8Bases_l3 (x0 : Vm.Repo) (b : List Int) (c : Int) (d : Bool → Int → Option ((List Int))) : Nat → Bool → Int → Option ((List Int))
 | 0, _, _ => none
 | m + 1, e, a =>
 bif decide ((a : Int) < ((b.length : Int) : Int)) then
 (bif e then
 (bif ((a : Int) == (c : Int)) then
 (spec_l8Bases_l3 x0 b c d m true (w64 (a + 1)))
 else
 ((gi b a).bind fun f =>
 (gi b c).bind fun g =>
 (Vm.spec_l8All x0 f).bind fun h =>
 (Vm.spec_l8Has h g).bind fun i =>
 spec_l8Bases_l3 x0 b c d m (!i) (w64 (a + 1))))
 else
 (spec_l8Bases_l3 x0 b c d m false (w64 (a + 1))))
 else
 (d e a)
def spec_l8Bases_l2 (x0 : Vm.Repo) (a : List Int) (d : List Int → Int → Option ((List Int))) : Nat → List Int → Int → Option ((List Int))
 | 0, _, _ => none
 | m + 1, c, b =>
 bif decide ((b : Int) < ((a.length : Int) : Int)) then
 (jn (fun (f : List Int) =>
 spec_l8Bases_l2 x0 a d m f (w64 (b + 1))) fun e =>
 jn (fun (g : Bool) (k : Int) =>
 bif g then
 ((gi a b).bind fun h =>
 (apM c [h]).bind fun i =>
 e i)
 else
 (e c)) fun j =>
 spec_l8Bases_l3 x0 a b j (((a.length : Int) - 0).toNat + 1) true 0)
 else
 (d c b)
def spec_l8Bases_l1 (b : (List Int)) (d : (List Int)) (e : List Int → Int → Option ((List Int))) : Nat → List Int → Int → Option ((List Int))
 | 0, _, _ => none
 | m + 1, c, a =>
 bif decide ((a : Int) < ((b.length : Int) : Int)) then
 (jn (fun (g : List Int) =>
 spec_l8Bases_l1 b d e m g (w64 (a + 1))) fun f =>
 (gi b a).bind fun h =>
 (Vm.spec_l8Has d h).bind fun i =>
 bif i then
 ((gi b a).bind fun j =>
 (apM c [j]).bind fun k =>
 f k)
 else
 (f c))
 else
 (e c a)
def spec_l8Bases (x0 : Vm.Repo) (x1 : Int) (x2 : Int) : Option ((List Int)) :=
 (Vm.spec_l8All x0 x1).bind fun a =>
 (Vm.spec_l8All x0 x2).bind fun c =>
 jn (fun (b : List Int) (g : Int) =>
 jn (fun (d : List Int) (h : Int) =>
 some d) fun e =>
 spec_l8Bases_l2 x0 b e (((b.length : Int) - 0).toNat + 1) ([] : List Int) 0) fun f =>
 spec_l8Bases_l1 a c f (((a.length : Int) - 0).toNat + 1) ([] : List Int) 0
def spec_l9Base (x0 : Vm.Repo) (x1 : Int) (x2 : Int) : Option ((List Vm.File)) :=
 (Vm.spec_l8Bases x0 x1 x2).bind fun a =>
 bif (((a.length : Int) : Int) == (0 : Int)) then
 (some ([] : List File))
 else
 ((gi a (w64 ((a.length : Int) - 1))).bind fun b =>
 (gi x0.Commits b).bind fun c =>
 some c.Tree)
def spec_l9Unite (x0 : Vm.Repo) (x1 : Str) (x2 : Str) (x3 : Int) : Option (Vm.Repo × Int) :=
 (Vm.spec_l7At x0 x1).bind fun a =>
 (Vm.spec_l8All x0 a).bind fun d =>
 (Vm.spec_l8Has d x3).bind fun e =>
 bif e then
 (some (x0, 2))
 else
 ((Vm.spec_l8All x0 x3).bind fun f =>
 (Vm.spec_l8Has f a).bind fun g =>
 bif g then
 ((Vm.spec_l7Head x0 x1 x3).bind fun h =>
 some (h, 3))
 else
 ((gi x0.Commits a).bind fun i =>
 (gi x0.Commits x3).bind fun j =>
 (Vm.spec_l9Base x0 a x3).bind fun k =>
 (Vm.spec_l6Join k i.Tree j.Tree).bind fun b =>
 bif decide ((0 : Int) < ((b.2.length : Int) : Int)) then
 (some (x0, 4))
 else
 ((Vm.spec_l7Add x0 x1 (Vm.Commit.mk ([a, x3] : List Int) x2 b.1)).bind fun c =>
 (Vm.spec_l7Ok c).bind fun l =>
 bif (!l) then
 (some (x0, 5))
 else
 (some (c, 0)))))
def spec_UniteInto (x0 : Vm.Repo) (x1 : Str) (x2 : Str) (x3 : Int) : Option (Vm.Repo × Int) :=
 (Vm.spec_l7Ok x0).bind fun e =>
 bif (!e) then
 (some (Vm.Repo.mk ([] : List Commit) ([] : List Head), 1))
 else
 (jn (fun (f : Bool) =>
 bif f then
 ((Vm.spec_l7Copy x0).bind fun b =>
 some (Vm.Repo.mk b.Commits b.Heads, 1))
 else
 ((Vm.spec_l7Copy x0).bind fun c =>
 (Vm.spec_l9Unite (Vm.Repo.mk c.Commits c.Heads) x1 x2 x3).bind fun d =>
 some (d.1, d.2))) fun a =>
 (Vm.spec_l7At x0 x1).bind fun g =>
 bif decide ((g : Int) < (0 : Int)) then
 (a true)
 else
 ((Vm.spec_l4Name x2).bind fun h =>
 bif (!h) then
 (a true)
 else
 ((Vm.spec_l1In x3 0 (w64 ((x0.Commits.length : Int) - 1))).bind fun i =>
 a (!i))))
def impl_Repo_ancestors_l2 (d : List Bool → Option ((List Bool))) (a : Vm.Commit)  : Nat → Int → List Bool → Option ((List Bool))
 | 0, _, _ => none
 | m + 1, b, c =>
 bif decide ((b : Int) < ((a.Parents.length : Int) : Int)) then
 ((gi a.Parents b).bind fun e =>
 (gi c e).bind fun g =>
 (siM c e true).bind fun f =>
 impl_Repo_ancestors_l2 d a m (w64 (b + 1)) f)
 else
 (d c)
def impl_Repo_ancestors_l1 (x0 : Vm.Repo) (c : Int → List Bool → Option ((List Bool))) : Nat → Int → List Bool → Option ((List Bool))
 | 0, _, _ => none
 | m + 1, a, b =>
 bif decide ((0 : Int) ≤ (a : Int)) then
 (jn (fun (f : List Bool) =>
 impl_Repo_ancestors_l1 x0 c m (w64 (a - 1)) f) fun d =>
 (gi b a).bind fun g =>
 bif g then
 ((gi x0.Commits a).bind fun e =>
 impl_Repo_ancestors_l2 d e (((e.Parents.length : Int) - 0).toNat + 1) 0 b)
 else
 (d b))
 else
 (c a b)
def impl_Repo_ancestors (x0 : Vm.Repo) (x1 : Int) : Option ((List Bool)) :=
 (mkM (x0.Commits.length : Int) (false : Bool)).bind fun a =>
 (gi a x1).bind fun e =>
 (siM a x1 true).bind fun b =>
 jn (fun (f : Int) (c : List Bool) =>
 some c) fun d =>
 impl_Repo_ancestors_l1 x0 d ((x1 + 1 - 0).toNat + 1) x1 b
def slices_Clone_bool_bool (x0 : List Bool) : Option ((List Bool)) :=
 if x0.length ≤ lim then some x0 else none
def impl_listOf_l1 (x0 : List Bool) (c : List Int → Int → Option ((List Int))) : Nat → List Int → Int → Option ((List Int))
 | 0, _, _ => none
 | m + 1, b, a =>
 bif decide ((a : Int) < ((x0.length : Int) : Int)) then
 (jn (fun (e : List Int) =>
 impl_listOf_l1 x0 c m e (w64 (a + 1))) fun d =>
 (gi x0 a).bind fun f =>
 bif f then
 ((apM b [a]).bind fun g =>
 d g)
 else
 (d b))
 else
 (c b a)
def impl_listOf (x0 : List Bool) : Option ((List Int)) :=
 jn (fun (a : List Int) (c : Int) =>
 some a) fun b =>
 impl_listOf_l1 x0 b (((x0.length : Int) - 0).toNat + 1) ([] : List Int) 0
def impl_Repo_bases_l3 (e : Int) (c : (List Int)) (f : Int → List Bool → Option ((List Int))) : Nat → Int → List Bool → Option ((List Int))
 | 0, _, _ => none
 | m + 1, a, b =>
 bif decide ((a : Int) < ((c.length : Int) : Int)) then
 (jn (fun (h : List Bool) =>
 impl_Repo_bases_l3 e c f m (w64 (a + 1)) h) fun g =>
 (gi c a).bind fun d =>
 bif ((d : Int) != (e : Int)) then
 ((gi b d).bind fun j =>
 (siM b d false).bind fun i =>
 g i)
 else
 (g b))
 else
 (f a b)
def impl_Repo_bases_l2 (x0 : Vm.Repo) (b : (List Int)) (c : Int → List Bool → Option ((List Int))) : Nat → Int → List Bool → Option ((List Int))
 | 0, _, _ => none
 | m + 1, a, d =>
 bif decide ((a : Int) < ((b.length : Int) : Int)) then
 ((gi b a).bind fun e =>
 (Vm.impl_Repo_ancestors x0 e).bind fun g =>
 (Vm.impl_listOf g).bind fun f =>
 jn (fun (j : Int) (h : List Bool) =>
 impl_Repo_bases_l2 x0 b c m (w64 (a + 1)) h) fun i =>
 impl_Repo_bases_l3 e f i (((f.length : Int) - 0).toNat + 1) 0 d)
 else
 (c a d)
def impl_Repo_bases_l1 (c : (List Bool)) (d : (List Bool)) (e : List Bool) (f : Int → List Bool → Option ((List Int))) : Nat → Int → List Bool → Option ((List Int))
 | 0, _, _ => none
 | m + 1, a, b =>
 bif decide ((a : Int) < ((e.length : Int) : Int)) then
 ((gi c a).bind fun g =>
 bif g then
 ((gi d a).bind fun h =>
 (gi b a).bind fun k =>
 (siM b a h).bind fun i =>
 impl_Repo_bases_l1 c d e f m (w64 (a + 1)) i)
 else
 ((gi b a).bind fun l =>
 (siM b a false).bind fun j =>
 impl_Repo_bases_l1 c d e f m (w64 (a + 1)) j))
 else
 (f a b)
def impl_Repo_bases (x0 : Vm.Repo) (x1 : Int) (x2 : Int) : Option ((List Int)) :=
 (Vm.impl_Repo_ancestors x0 x1).bind fun d =>
 (Vm.impl_Repo_ancestors x0 x2).bind fun e =>
 (mkM (x0.Commits.length : Int) (false : Bool)).bind fun a =>
 jn (fun (k : Int) (b : List Bool) =>
 (Vm.slices_Clone_bool_bool b).bind fun f =>
 (Vm.impl_listOf b).bind fun c =>
 jn (fun (l : Int) (g : List Bool) =>
 (Vm.impl_listOf g).bind fun h =>
 some h) fun i =>
 impl_Repo_bases_l2 x0 c i (((c.length : Int) - 0).toNat + 1) 0 f) fun j =>
 impl_Repo_bases_l1 d e a j (((a.length : Int) - 0).toNat + 1) 0 a
def impl_Repo_baseTree (x0 : Vm.Repo) (x1 : Int) (x2 : Int) : Option ((List Vm.File)) :=
 (Vm.impl_Repo_bases x0 x1 x2).bind fun a =>
 bif (((a.length : Int) : Int) == (0 : Int)) then
 (some ([] : List File))
 else
 ((gi a (w64 ((a.length : Int) - 1))).bind fun b =>
 (Vm.impl_Repo_tree x0 b).bind fun c =>
 some c)
def impl_Repo_unite (x0 : Vm.Repo) (x1 : Str) (x2 : Str) (x3 : Int) : Option (Vm.Repo × Int) :=
 (Vm.impl_Repo_at x0 x1).bind fun a =>
 jn (fun (l : Bool) =>
 bif l then
 ((Vm.impl_Repo_own x0).bind fun d =>
 some (Vm.Repo.mk d.Commits d.Heads, 1))
 else
 ((Vm.impl_Repo_ancestors x0 a).bind fun m =>
 (gi m x3).bind fun n =>
 bif n then
 ((Vm.impl_Repo_own x0).bind fun e =>
 some (Vm.Repo.mk e.Commits e.Heads, 2))
 else
 ((Vm.impl_Repo_ancestors x0 x3).bind fun o =>
 (gi o a).bind fun p =>
 bif p then
 ((Vm.impl_Repo_own x0).bind fun f =>
 (Vm.impl_Repo_point (Vm.Repo.mk f.Commits f.Heads) x1 x3).bind fun g =>
 some (Vm.Repo.mk g.Commits g.Heads, 3))
 else
 ((Vm.impl_Repo_baseTree x0 a x3).bind fun q =>
 (Vm.impl_Repo_tree x0 a).bind fun r =>
 (Vm.impl_Repo_tree x0 x3).bind fun s =>
 (Vm.impl_JoinTree q r s).bind fun h =>
 bif (!h.2) then
 ((Vm.impl_Repo_own x0).bind fun i =>
 some (Vm.Repo.mk i.Commits i.Heads, 4))
 else
 ((Vm.impl_Repo_own x0).bind fun j =>
 (Vm.impl_Repo_commit (Vm.Repo.mk j.Commits j.Heads) x1 x2 h.1 ([a, x3] : List Int)).bind fun k =>
 (Vm.impl_Repo_tried x0 (Vm.Repo.mk k.Commits k.Heads)).bind fun b =>
 bif (!b.2) then
 (some (Vm.Repo.mk b.1.Commits b.1.Heads, 5))
 else
 (some (Vm.Repo.mk b.1.Commits b.1.Heads, 0))))))) fun c =>
 bif decide ((a : Int) < (0 : Int)) then
 (c true)
 else
 ((Vm.impl_nameOk x2).bind fun t =>
 bif (!t) then
 (c true)
 else
 ((Vm.impl_Repo_exists x0 x3).bind fun u =>
 c (!u)))
def impl_UniteInto (x0 : Vm.Repo) (x1 : Str) (x2 : Str) (x3 : Int) : Option (Vm.Repo × Int) :=
 (Vm.impl_RepoOk x0).bind fun b =>
 bif (!b) then
 (some (Vm.Repo.mk ([] : List Commit) ([] : List Head), 1))
 else
 ((Vm.impl_Repo_unite x0 x1 x2 x3).bind fun a =>
 some (Vm.Repo.mk a.1.Commits a.1.Heads, a.2))
def laws_FnExactUniteInto (x0 : Vm.Repo) (x1 : Str) (x2 : Str) (x3 : Int) : Option (Bool) :=
 bif decide ((1048576 : Int) < ((x1.length : Int) : Int)) then
 (some true)
 else
 (bif decide ((1048576 : Int) < ((x2.length : Int) : Int)) then
 (some true)
 else
 ((Vm.laws_szRepo x0 1048576).bind fun n =>
 bif decide ((n : Int) < (0 : Int)) then
 (some true)
 else
 ((Vm.laws_toRepo x0).bind fun g =>
 (Vm.spec_UniteInto (Vm.Repo.mk g.Commits g.Heads) x1 x2 x3).bind fun b =>
 (Vm.laws_toRepo x0).bind fun c =>
 (Vm.impl_UniteInto (Vm.Repo.mk c.Commits c.Heads) x1 x2 x3).bind fun a =>
 jn (fun (o : Bool) =>
 bif o then
 (some false)
 else
 ((Vm.laws_toRepo x0).bind fun h =>
 (Vm.laws_eqRepo (Vm.Repo.mk c.Commits c.Heads) (Vm.Repo.mk h.Commits h.Heads)).bind fun p =>
 bif (!p) then
 (some false)
 else
 ((Vm.laws_markRepo (Vm.Repo.mk c.Commits c.Heads) 1).bind fun q =>
 jn (fun (r : Bool) =>
 bif r then
 (some false)
 else
 ((Vm.laws_markRepo (Vm.Repo.mk a.1.Commits a.1.Heads) 1).bind fun d =>
 (Vm.laws_heldRepo (Vm.Repo.mk d.2.Commits d.2.Heads) 1).bind fun i =>
 bif decide ((i : Int) < (0 : Int)) then
 (some false)
 else
 (bif ((i : Int) != (d.1 : Int)) then
 (some false)
 else
 ((Vm.laws_toRepo x0).bind fun j =>
 (Vm.impl_UniteInto (Vm.Repo.mk j.Commits j.Heads) x1 x2 x3).bind fun e =>
 jn (fun (s : Bool) =>
 bif s then
 (some false)
 else
 ((Vm.laws_heldRepo (Vm.Repo.mk d.2.Commits d.2.Heads) 1).bind fun k =>
 bif decide ((k : Int) < (0 : Int)) then
 (some false)
 else
 (bif ((k : Int) != (d.1 : Int)) then
 (some false)
 else
 (some true)))) fun l =>
 (Vm.laws_eqRepo (Vm.Repo.mk e.1.Commits e.1.Heads) b.1).bind fun t =>
 bif (!t) then
 (l true)
 else
 (l ((e.2 : Int) != (b.2 : Int))))))) fun f =>
 bif decide ((q.1 : Int) < (0 : Int)) then
 (f true)
 else
 ((Vm.laws_eqRepo (Vm.Repo.mk a.1.Commits a.1.Heads) b.1).bind fun u =>
 bif (!u) then
 (f true)
 else
 (f ((a.2 : Int) != (b.2 : Int))))))) fun m =>
 (Vm.laws_eqRepo (Vm.Repo.mk a.1.Commits a.1.Heads) b.1).bind fun v =>
 bif (!v) then
 (m true)
 else
 (m ((a.2 : Int) != (b.2 : Int))))))
end Go.Vm
