/- Models of the functions: plain Lean, printed by a program of ours. Conditions: none. -/
import Derived.Test.YtokbhelngoeblaaGreatDoorCLw
namespace Go.Vm
open Go Go.Sx
set_option linter.unusedVariables false
set_option linter.unusedSimpArgs false
def znr (x0 : List Int) (x1 : Int) : Option (Int) :=
 bif decide ((w64 (x1 - (x0.length : Int)) : Int) < (0 : Int)) then
 (some (-1))
 else
 (some (w64 (x1 - (x0.length : Int))))
def zee (x0 : List Str) (c : Int → Int → Int → Option (Int)) : Nat → Int → Int → Int → Option (Int)
 | 0, _, _, _ => none
 | m + 1, b, d, a =>
 bif decide ((a : Int) < ((x0.length : Int) : Int)) then
 ((gi x0 a).bind fun e =>
 bif decide ((w64 (b - (e.length : Int)) : Int) < (0 : Int)) then
 (some (-1))
 else
 (zee x0 c m (w64 (b - (e.length : Int))) d (w64 (a + 1))))
 else
 (c b d a)
def zg9 (x0 : List Str) (x1 : Int) : Option (Int) :=
 bif decide ((w64 (x1 - (x0.length : Int)) : Int) < (0 : Int)) then
 (some (-1))
 else
 (jn (fun (a : Int) (c : Int) (d : Int) =>
 some a) fun b =>
 zee x0 b (((x0.length : Int) - 0).toNat + 1) (w64 (x1 - (x0.length : Int))) 0 0)
def zns (x0 : Vm.File) (x1 : Int) : Option (Int) :=
 bif decide ((w64 (x1 - (x0.Path.length : Int)) : Int) < (0 : Int)) then
 (some (-1))
 else
 ((Vm.zg9 x0.Text (w64 (x1 - (x0.Path.length : Int)))).bind fun a =>
 bif decide ((a : Int) < (0 : Int)) then
 (some (-1))
 else
 (some a))
def ziF (x0 : List Vm.File) (b : Int → Int → Int → Option (Int)) : Nat → Int → Int → Int → Option (Int)
 | 0, _, _, _ => none
 | m + 1, c, d, a =>
 bif decide ((a : Int) < ((x0.length : Int) : Int)) then
 ((gi x0 a).bind fun f =>
 (Vm.zns f c).bind fun e =>
 bif decide ((e : Int) < (0 : Int)) then
 (some (-1))
 else
 (ziF x0 b m e d (w64 (a + 1))))
 else
 (b c d a)
def zl8 (x0 : List Vm.File) (x1 : Int) : Option (Int) :=
 bif decide ((w64 (x1 - (x0.length : Int)) : Int) < (0 : Int)) then
 (some (-1))
 else
 (jn (fun (a : Int) (c : Int) (d : Int) =>
 some a) fun b =>
 ziF x0 b (((x0.length : Int) - 0).toNat + 1) (w64 (x1 - (x0.length : Int))) 0 0)
def zlA (x0 : Vm.Commit) (x1 : Int) : Option (Int) :=
 (Vm.znr x0.Parents x1).bind fun a =>
 bif decide ((a : Int) < (0 : Int)) then
 (some (-1))
 else
 (bif decide ((w64 (a - (x0.Who.length : Int)) : Int) < (0 : Int)) then
 (some (-1))
 else
 ((Vm.zl8 x0.Tree (w64 (a - (x0.Who.length : Int)))).bind fun b =>
 bif decide ((b : Int) < (0 : Int)) then
 (some (-1))
 else
 (some b)))
def zgO (x0 : List Vm.Commit) (b : Int → Int → Int → Option (Int)) : Nat → Int → Int → Int → Option (Int)
 | 0, _, _, _ => none
 | m + 1, c, d, a =>
 bif decide ((a : Int) < ((x0.length : Int) : Int)) then
 ((gi x0 a).bind fun f =>
 (Vm.zlA f c).bind fun e =>
 bif decide ((e : Int) < (0 : Int)) then
 (some (-1))
 else
 (zgO x0 b m e d (w64 (a + 1))))
 else
 (b c d a)
def zko (x0 : List Vm.Commit) (x1 : Int) : Option (Int) :=
 bif decide ((w64 (x1 - (x0.length : Int)) : Int) < (0 : Int)) then
 (some (-1))
 else
 (jn (fun (a : Int) (c : Int) (d : Int) =>
 some a) fun b =>
 zgO x0 b (((x0.length : Int) - 0).toNat + 1) (w64 (x1 - (x0.length : Int))) 0 0)
def znt (x0 : Vm.Head) (x1 : Int) : Option (Int) :=
 bif decide ((w64 (x1 - (x0.Name.length : Int)) : Int) < (0 : Int)) then
 (some (-1))
 else
 (some (w64 (x1 - (x0.Name.length : Int))))
def ziG (x0 : List Vm.Head) (b : Int → Int → Int → Option (Int)) : Nat → Int → Int → Int → Option (Int)
 | 0, _, _, _ => none
 | m + 1, c, d, a =>
 bif decide ((a : Int) < ((x0.length : Int) : Int)) then
 ((gi x0 a).bind fun f =>
 (Vm.znt f c).bind fun e =>
 bif decide ((e : Int) < (0 : Int)) then
 (some (-1))
 else
 (ziG x0 b m e d (w64 (a + 1))))
 else
 (b c d a)
def zl9 (x0 : List Vm.Head) (x1 : Int) : Option (Int) :=
 bif decide ((w64 (x1 - (x0.length : Int)) : Int) < (0 : Int)) then
 (some (-1))
 else
 (jn (fun (a : Int) (c : Int) (d : Int) =>
 some a) fun b =>
 ziG x0 b (((x0.length : Int) - 0).toNat + 1) (w64 (x1 - (x0.length : Int))) 0 0)
def zln (x0 : Vm.Repo) (x1 : Int) : Option (Int) :=
 (Vm.zko x0.Commits x1).bind fun a =>
 bif decide ((a : Int) < (0 : Int)) then
 (some (-1))
 else
 ((Vm.zl9 x0.Heads a).bind fun b =>
 bif decide ((b : Int) < (0 : Int)) then
 (some (-1))
 else
 (some b))
def zjo (x0 : List Int) (c : Int → List Int → Option ((List Int))) : Nat → Int → List Int → Option ((List Int))
 | 0, _, _ => none
 | m + 1, a, b =>
 bif decide ((a : Int) < ((x0.length : Int) : Int)) then
 ((gi x0 a).bind fun d =>
 (gi b a).bind fun f =>
 (siM b a d).bind fun e =>
 zjo x0 c m (w64 (a + 1)) e)
 else
 (c a b)
def znu (x0 : List Int) : Option ((List Int)) :=
 (mkM (x0.length : Int) (0 : Int)).bind fun a =>
 jn (fun (d : Int) (b : List Int) =>
 some b) fun c =>
 zjo x0 c (((x0.length : Int) - 0).toNat + 1) 0 a
def zef (x0 : List Str) (c : Int → List Str → Option ((List Str))) : Nat → Int → List Str → Option ((List Str))
 | 0, _, _ => none
 | m + 1, a, b =>
 bif decide ((a : Int) < ((x0.length : Int) : Int)) then
 ((gi x0 a).bind fun d =>
 (gi b a).bind fun f =>
 (siM b a d).bind fun e =>
 zef x0 c m (w64 (a + 1)) e)
 else
 (c a b)
def zha (x0 : List Str) : Option ((List Str)) :=
 (mkM (x0.length : Int) (([] : Str) : Str)).bind fun a =>
 jn (fun (d : Int) (b : List Str) =>
 some b) fun c =>
 zef x0 c (((x0.length : Int) - 0).toNat + 1) 0 a
def znv (x0 : Vm.File) : Option (Vm.File) :=
 (Vm.zha x0.Text).bind fun a =>
 some (Vm.File.mk x0.Path a)
def ziH (x0 : List Vm.File) (c : Int → List Vm.File → Option ((List Vm.File))) : Nat → Int → List Vm.File → Option ((List Vm.File))
 | 0, _, _ => none
 | m + 1, a, b =>
 bif decide ((a : Int) < ((x0.length : Int) : Int)) then
 ((gi x0 a).bind fun e =>
 (Vm.znv e).bind fun d =>
 (gi b a).bind fun g =>
 (siM b a (Vm.File.mk d.Path d.Text)).bind fun f =>
 ziH x0 c m (w64 (a + 1)) f)
 else
 (c a b)
def zma (x0 : List Vm.File) : Option ((List Vm.File)) :=
 (mkM (x0.length : Int) (Vm.File.mk ([] : Str) ([] : List Str) : File)).bind fun a =>
 jn (fun (d : Int) (b : List Vm.File) =>
 some b) fun c =>
 ziH x0 c (((x0.length : Int) - 0).toNat + 1) 0 a
def zlB (x0 : Vm.Commit) : Option (Vm.Commit) :=
 (Vm.znu x0.Parents).bind fun a =>
 (Vm.zma x0.Tree).bind fun b =>
 some (Vm.Commit.mk a x0.Who b)
def zgP (x0 : List Vm.Commit) (d : Int → List Vm.Commit → Option ((List Vm.Commit))) : Nat → Int → List Vm.Commit → Option ((List Vm.Commit))
 | 0, _, _ => none
 | m + 1, a, b =>
 bif decide ((a : Int) < ((x0.length : Int) : Int)) then
 ((gi x0 a).bind fun e =>
 (Vm.zlB e).bind fun c =>
 (gi b a).bind fun g =>
 (siM b a (Vm.Commit.mk c.Parents c.Who c.Tree)).bind fun f =>
 zgP x0 d m (w64 (a + 1)) f)
 else
 (d a b)
def zkp (x0 : List Vm.Commit) : Option ((List Vm.Commit)) :=
 (mkM (x0.length : Int) (Vm.Commit.mk ([] : List Int) ([] : Str) ([] : List File) : Commit)).bind fun a =>
 jn (fun (d : Int) (b : List Vm.Commit) =>
 some b) fun c =>
 zgP x0 c (((x0.length : Int) - 0).toNat + 1) 0 a
def znw (x0 : Vm.Head) : Option (Vm.Head) :=
 some (Vm.Head.mk x0.Name x0.At)
def ziI (x0 : List Vm.Head) (c : Int → List Vm.Head → Option ((List Vm.Head))) : Nat → Int → List Vm.Head → Option ((List Vm.Head))
 | 0, _, _ => none
 | m + 1, a, b =>
 bif decide ((a : Int) < ((x0.length : Int) : Int)) then
 ((gi x0 a).bind fun d =>
 (Vm.znw d).bind fun e =>
 (gi b a).bind fun g =>
 (siM b a e).bind fun f =>
 ziI x0 c m (w64 (a + 1)) f)
 else
 (c a b)
def zmb (x0 : List Vm.Head) : Option ((List Vm.Head)) :=
 (mkM (x0.length : Int) (Vm.Head.mk ([] : Str) 0 : Head)).bind fun a =>
 jn (fun (d : Int) (b : List Vm.Head) =>
 some b) fun c =>
 ziI x0 c (((x0.length : Int) - 0).toNat + 1) 0 a
def zeU (x0 : Vm.Repo) : Option (Vm.Repo) :=
 (Vm.zkp x0.Commits).bind fun a =>
 (Vm.zmb x0.Heads).bind fun b =>
 some (Vm.Repo.mk a b)
def zjp (x0 : List Int) (x1 : List Int) (b : Bool → Int → Option (Bool)) : Nat → Bool → Int → Option (Bool)
 | 0, _, _ => none
 | m + 1, c, a =>
 bif decide ((a : Int) < ((x0.length : Int) : Int)) then
 ((gi x0 a).bind fun d =>
 (gi x1 a).bind fun e =>
 bif ((d : Int) != (e : Int)) then
 (some false)
 else
 (zjp x0 x1 b m c (w64 (a + 1))))
 else
 (b c a)
def znx (x0 : List Int) (x1 : List Int) : Option (Bool) :=
 bif (((x0.length : Int) : Int) != ((x1.length : Int) : Int)) then
 (some false)
 else
 (jn (fun (b : Bool) (c : Int) =>
 some true) fun a =>
 zjp x0 x1 a (((x0.length : Int) - 0).toNat + 1) false 0)
def zeg (x0 : List Str) (x1 : List Str) (b : Bool → Int → Option (Bool)) : Nat → Bool → Int → Option (Bool)
 | 0, _, _ => none
 | m + 1, c, a =>
 bif decide ((a : Int) < ((x0.length : Int) : Int)) then
 ((gi x0 a).bind fun d =>
 (gi x1 a).bind fun e =>
 bif (d != e) then
 (some false)
 else
 (zeg x0 x1 b m c (w64 (a + 1))))
 else
 (b c a)
def zeW (x0 : List Str) (x1 : List Str) : Option (Bool) :=
 bif (((x0.length : Int) : Int) != ((x1.length : Int) : Int)) then
 (some false)
 else
 (jn (fun (b : Bool) (c : Int) =>
 some true) fun a =>
 zeg x0 x1 a (((x0.length : Int) - 0).toNat + 1) false 0)
def zny (x0 : Vm.File) (x1 : Vm.File) : Option (Bool) :=
 bif (x0.Path != x1.Path) then
 (some false)
 else
 ((Vm.zeW x0.Text x1.Text).bind fun a =>
 bif (!a) then
 (some false)
 else
 (some true))
def ziJ (x0 : List Vm.File) (x1 : List Vm.File) (b : Bool → Int → Option (Bool)) : Nat → Bool → Int → Option (Bool)
 | 0, _, _ => none
 | m + 1, c, a =>
 bif decide ((a : Int) < ((x0.length : Int) : Int)) then
 ((gi x0 a).bind fun d =>
 (gi x1 a).bind fun e =>
 (Vm.zny d e).bind fun f =>
 bif (!f) then
 (some false)
 else
 (ziJ x0 x1 b m c (w64 (a + 1))))
 else
 (b c a)
def zmc (x0 : List Vm.File) (x1 : List Vm.File) : Option (Bool) :=
 bif (((x0.length : Int) : Int) != ((x1.length : Int) : Int)) then
 (some false)
 else
 (jn (fun (b : Bool) (c : Int) =>
 some true) fun a =>
 ziJ x0 x1 a (((x0.length : Int) - 0).toNat + 1) false 0)
def zlC (x0 : Vm.Commit) (x1 : Vm.Commit) : Option (Bool) :=
 (Vm.znx x0.Parents x1.Parents).bind fun a =>
 bif (!a) then
 (some false)
 else
 (bif (x0.Who != x1.Who) then
 (some false)
 else
 ((Vm.zmc x0.Tree x1.Tree).bind fun b =>
 bif (!b) then
 (some false)
 else
 (some true)))
def zgQ (x0 : List Vm.Commit) (x1 : List Vm.Commit) (b : Bool → Int → Option (Bool)) : Nat → Bool → Int → Option (Bool)
 | 0, _, _ => none
 | m + 1, c, a =>
 bif decide ((a : Int) < ((x0.length : Int) : Int)) then
 ((gi x0 a).bind fun d =>
 (gi x1 a).bind fun e =>
 (Vm.zlC d e).bind fun f =>
 bif (!f) then
 (some false)
 else
 (zgQ x0 x1 b m c (w64 (a + 1))))
 else
 (b c a)
def zkq (x0 : List Vm.Commit) (x1 : List Vm.Commit) : Option (Bool) :=
 bif (((x0.length : Int) : Int) != ((x1.length : Int) : Int)) then
 (some false)
 else
 (jn (fun (b : Bool) (c : Int) =>
 some true) fun a =>
 zgQ x0 x1 a (((x0.length : Int) - 0).toNat + 1) false 0)
def znz (x0 : Vm.Head) (x1 : Vm.Head) : Option (Bool) :=
 bif (x0.Name != x1.Name) then
 (some false)
 else
 (bif ((x0.At : Int) != (x1.At : Int)) then
 (some false)
 else
 (some true))
def ziK (x0 : List Vm.Head) (x1 : List Vm.Head) (b : Bool → Int → Option (Bool)) : Nat → Bool → Int → Option (Bool)
 | 0, _, _ => none
 | m + 1, c, a =>
 bif decide ((a : Int) < ((x0.length : Int) : Int)) then
 ((gi x0 a).bind fun d =>
 (gi x1 a).bind fun e =>
 (Vm.znz d e).bind fun f =>
 bif (!f) then
 (some false)
 else
 (ziK x0 x1 b m c (w64 (a + 1))))
 else
 (b c a)
def zmd (x0 : List Vm.Head) (x1 : List Vm.Head) : Option (Bool) :=
 bif (((x0.length : Int) : Int) != ((x1.length : Int) : Int)) then
 (some false)
 else
 (jn (fun (b : Bool) (c : Int) =>
 some true) fun a =>
 ziK x0 x1 a (((x0.length : Int) - 0).toNat + 1) false 0)
def zgg (x0 : Vm.Repo) (x1 : Vm.Repo) : Option (Bool) :=
 (Vm.zkq x0.Commits x1.Commits).bind fun a =>
 bif (!a) then
 (some false)
 else
 ((Vm.zmd x0.Heads x1.Heads).bind fun b =>
 bif (!b) then
 (some false)
 else
 (some true))
def zhL  (d : Int → Int → List Int → Option (Int × (List Int))) : Nat → Int → Int → List Int → Option (Int × (List Int))
 | 0, _, _, _ => none
 | m + 1, c, a, b =>
 bif decide ((a : Int) < ((b.length : Int) : Int)) then
 ((gi b a).bind fun f =>
 (siM b a c).bind fun e =>
 zhL d m (w64 (c + 1)) (w64 (a + 1)) e)
 else
 (d c a b)
def zlD (x0 : List Int) (x1 : Int) : Option (Int × (List Int)) :=
 jn (fun (a : Int) (d : Int) (b : List Int) =>
 some (a, b)) fun c =>
 zhL c (((x0.length : Int) - 0).toNat + 1) x1 0 x0
def zgr  (b : Int → Str → Option (Str)) : Nat → Int → Str → Option (Str)
 | 0, _, _ => none
 | m + 1, a, c =>
 bif decide ((0 : Int) < (a : Int)) then
 ((saM (([(by8 (w64 (48 + (Int.tmod a 10))))] : List Byte) : Str) c).bind fun d =>
 zgr b m (w64 (Int.tdiv a 10)) d)
 else
 (b a c)
def zcd (x0 : Int) : Option (Str) :=
 bif decide ((x0 : Int) ≤ (0 : Int)) then
 (some ([109, 48] : Str))
 else
 (jn (fun (d : Int) (a : Str) =>
 (saM ([109] : Str) a).bind fun b =>
 some b) fun c =>
 zgr c ((x0 - 0).toNat + 1) x0 ([] : Str))
def zdM  (d : Int → Int → List Str → Option (Int × (List Str))) : Nat → Int → Int → List Str → Option (Int × (List Str))
 | 0, _, _, _ => none
 | m + 1, c, a, b =>
 bif decide ((a : Int) < ((b.length : Int) : Int)) then
 ((Vm.zcd c).bind fun e =>
 (gi b a).bind fun g =>
 (siM b a e).bind fun f =>
 zdM d m (w64 (c + 1)) (w64 (a + 1)) f)
 else
 (d c a b)
def zeb (x0 : List Str) (x1 : Int) : Option (Int × (List Str)) :=
 jn (fun (a : Int) (d : Int) (b : List Str) =>
 some (a, b)) fun c =>
 zdM c (((x0.length : Int) - 0).toNat + 1) x1 0 x0
def zgR  (d : Int → Int → List Vm.File → Option (Int × (List Vm.File))) : Nat → Int → Int → List Vm.File → Option (Int × (List Vm.File))
 | 0, _, _, _ => none
 | m + 1, c, a, b =>
 bif decide ((a : Int) < ((b.length : Int) : Int)) then
 ((Vm.zcd c).bind fun h =>
 (gi b a).bind fun i =>
 (siM b a (Vm.File.mk h i.Text)).bind fun e =>
 (gi e a).bind fun f =>
 (Vm.zeb f.Text (w64 (c + 1))).bind fun g =>
 (siM e a (Vm.File.mk f.Path g.2)).bind fun j =>
 zgR d m g.1 (w64 (a + 1)) j)
 else
 (d c a b)
def zkr (x0 : List Vm.File) (x1 : Int) : Option (Int × (List Vm.File)) :=
 jn (fun (a : Int) (d : Int) (b : List Vm.File) =>
 some (a, b)) fun c =>
 zgR c (((x0.length : Int) - 0).toNat + 1) x1 0 x0
def zfI  (f : Int → Int → List Vm.Commit → Option (Int × (List Vm.Commit))) : Nat → Int → Int → List Vm.Commit → Option (Int × (List Vm.Commit))
 | 0, _, _, _ => none
 | m + 1, g, a, b =>
 bif decide ((a : Int) < ((b.length : Int) : Int)) then
 ((gi b a).bind fun c =>
 (Vm.zlD c.Parents g).bind fun d =>
 (siM b a (Vm.Commit.mk d.2 c.Who c.Tree)).bind fun h =>
 (Vm.zcd d.1).bind fun l =>
 (gi h a).bind fun i =>
 (siM h a (Vm.Commit.mk i.Parents l i.Tree)).bind fun j =>
 (gi j a).bind fun e =>
 (Vm.zkr e.Tree (w64 (d.1 + 1))).bind fun k =>
 (siM j a (Vm.Commit.mk e.Parents e.Who k.2)).bind fun n =>
 zfI f m k.1 (w64 (a + 1)) n)
 else
 (f g a b)
def ziS (x0 : List Vm.Commit) (x1 : Int) : Option (Int × (List Vm.Commit)) :=
 jn (fun (a : Int) (d : Int) (b : List Vm.Commit) =>
 some (a, b)) fun c =>
 zfI c (((x0.length : Int) - 0).toNat + 1) x1 0 x0
def zgS  (d : Int → Int → List Vm.Head → Option (Int × (List Vm.Head))) : Nat → Int → Int → List Vm.Head → Option (Int × (List Vm.Head))
 | 0, _, _, _ => none
 | m + 1, b, a, c =>
 bif decide ((a : Int) < ((c.length : Int) : Int)) then
 ((Vm.zcd b).bind fun f =>
 (gi c a).bind fun g =>
 (siM c a (Vm.Head.mk f g.At)).bind fun e =>
 (gi e a).bind fun h =>
 (siM e a (Vm.Head.mk h.Name (w64 (b + 1)))).bind fun i =>
 zgS d m (w64 ((w64 (b + 1)) + 1)) (w64 (a + 1)) i)
 else
 (d b a c)
def zks (x0 : List Vm.Head) (x1 : Int) : Option (Int × (List Vm.Head)) :=
 jn (fun (a : Int) (d : Int) (b : List Vm.Head) =>
 some (a, b)) fun c =>
 zgS c (((x0.length : Int) - 0).toNat + 1) x1 0 x0
def zhb (x0 : Vm.Repo) (x1 : Int) : Option (Int × Vm.Repo) :=
 (Vm.ziS x0.Commits x1).bind fun a =>
 (Vm.zks x0.Heads a.1).bind fun b =>
 some (b.1, Vm.Repo.mk a.2 b.2)
def zdN (x0 : List Str) (c : Int → Int → Int → Option (Int)) : Nat → Int → Int → Int → Option (Int)
 | 0, _, _, _ => none
 | m + 1, b, d, a =>
 bif decide ((a : Int) < ((x0.length : Int) : Int)) then
 ((gi x0 a).bind fun e =>
 (Vm.zcd b).bind fun f =>
 bif (e != f) then
 (some (-1))
 else
 (zdN x0 c m (w64 (b + 1)) d (w64 (a + 1))))
 else
 (c b d a)
def zeX (x0 : List Str) (x1 : Int) : Option (Int) :=
 jn (fun (a : Int) (c : Int) (d : Int) =>
 some a) fun b =>
 zdN x0 b (((x0.length : Int) - 0).toNat + 1) x1 0 0
end Go.Vm
