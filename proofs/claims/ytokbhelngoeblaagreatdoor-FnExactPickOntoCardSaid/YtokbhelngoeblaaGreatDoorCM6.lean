/- Models of the functions: plain Lean, printed by a program of ours. Conditions: none. -/
import Derived.Test.YtokbhelngoeblaaGreatDoorCLw
import Derived.Test.YtokbhelngoeblaaGreatDoorCM1
namespace Go.Vm
open Go Go.Sx
set_option linter.unusedVariables false
set_option linter.unusedSimpArgs false
def zmh (x0 : Vm.Owner) (x1 : Int) : Option (Int) :=
 bif decide ((w64 (x1 - (x0.Path.length : Int)) : Int) < (0 : Int)) then
 (some (-1))
 else
 (bif decide ((w64 ((w64 (x1 - (x0.Path.length : Int))) - (x0.Who.length : Int)) : Int) < (0 : Int)) then
 (some (-1))
 else
 (some (w64 ((w64 (x1 - (x0.Path.length : Int))) - (x0.Who.length : Int)))))
def zhR (x0 : List Vm.Owner) (b : Int → Int → Int → Option (Int)) : Nat → Int → Int → Int → Option (Int)
 | 0, _, _, _ => none
 | m + 1, c, d, a =>
 bif decide ((a : Int) < ((x0.length : Int) : Int)) then
 ((gi x0 a).bind fun f =>
 (Vm.zmh f c).bind fun e =>
 bif decide ((e : Int) < (0 : Int)) then
 (some (-1))
 else
 (zhR x0 b m e d (w64 (a + 1))))
 else
 (b c d a)
def zj8 (x0 : List Vm.Owner) (x1 : Int) : Option (Int) :=
 bif decide ((w64 (x1 - (x0.length : Int)) : Int) < (0 : Int)) then
 (some (-1))
 else
 (jn (fun (a : Int) (c : Int) (d : Int) =>
 some a) fun b =>
 zhR x0 b (((x0.length : Int) - 0).toNat + 1) (w64 (x1 - (x0.length : Int))) 0 0)
def zj9 (x0 : Vm.Review) (x1 : Int) : Option (Int) :=
 bif decide ((w64 (x1 - (x0.Branch.length : Int)) : Int) < (0 : Int)) then
 (some (-1))
 else
 (bif decide ((w64 ((w64 (x1 - (x0.Branch.length : Int))) - (x0.Into.length : Int)) : Int) < (0 : Int)) then
 (some (-1))
 else
 (bif decide ((w64 ((w64 ((w64 (x1 - (x0.Branch.length : Int))) - (x0.Into.length : Int))) - (x0.By.length : Int)) : Int) < (0 : Int)) then
 (some (-1))
 else
 ((Vm.zg9 x0.Yes (w64 ((w64 ((w64 (x1 - (x0.Branch.length : Int))) - (x0.Into.length : Int))) - (x0.By.length : Int)))).bind fun a =>
 bif decide ((a : Int) < (0 : Int)) then
 (some (-1))
 else
 (some a))))
def zmi (x0 : Vm.Owner) : Option (Vm.Owner) :=
 some (Vm.Owner.mk x0.Path x0.Who)
def zhS (x0 : List Vm.Owner) (c : Int → List Vm.Owner → Option ((List Vm.Owner))) : Nat → Int → List Vm.Owner → Option ((List Vm.Owner))
 | 0, _, _ => none
 | m + 1, a, b =>
 bif decide ((a : Int) < ((x0.length : Int) : Int)) then
 ((gi x0 a).bind fun d =>
 (Vm.zmi d).bind fun e =>
 (gi b a).bind fun g =>
 (siM b a e).bind fun f =>
 zhS x0 c m (w64 (a + 1)) f)
 else
 (c a b)
def zfd (x0 : List Vm.Owner) : Option ((List Vm.Owner)) :=
 (mkM (x0.length : Int) (Vm.Owner.mk ([] : Str) ([] : Str) : Owner)).bind fun a =>
 jn (fun (d : Int) (b : List Vm.Owner) =>
 some b) fun c =>
 zhS x0 c (((x0.length : Int) - 0).toNat + 1) 0 a
def zfe (x0 : Vm.Review) : Option (Vm.Review) :=
 (Vm.zha x0.Yes).bind fun a =>
 some (Vm.Review.mk x0.Branch x0.Into x0.By a)
def zmj (x0 : Vm.Owner) (x1 : Vm.Owner) : Option (Bool) :=
 bif (x0.Path != x1.Path) then
 (some false)
 else
 (bif (x0.Who != x1.Who) then
 (some false)
 else
 (some true))
def zhT (x0 : List Vm.Owner) (x1 : List Vm.Owner) (b : Bool → Int → Option (Bool)) : Nat → Bool → Int → Option (Bool)
 | 0, _, _ => none
 | m + 1, c, a =>
 bif decide ((a : Int) < ((x0.length : Int) : Int)) then
 ((gi x0 a).bind fun d =>
 (gi x1 a).bind fun e =>
 (Vm.zmj d e).bind fun f =>
 bif (!f) then
 (some false)
 else
 (zhT x0 x1 b m c (w64 (a + 1))))
 else
 (b c a)
def zka (x0 : List Vm.Owner) (x1 : List Vm.Owner) : Option (Bool) :=
 bif (((x0.length : Int) : Int) != ((x1.length : Int) : Int)) then
 (some false)
 else
 (jn (fun (b : Bool) (c : Int) =>
 some true) fun a =>
 zhT x0 x1 a (((x0.length : Int) - 0).toNat + 1) false 0)
def zkb (x0 : Vm.Review) (x1 : Vm.Review) : Option (Bool) :=
 bif (x0.Branch != x1.Branch) then
 (some false)
 else
 (bif (x0.Into != x1.Into) then
 (some false)
 else
 (bif (x0.By != x1.By) then
 (some false)
 else
 ((Vm.zeW x0.Yes x1.Yes).bind fun a =>
 bif (!a) then
 (some false)
 else
 (some true))))
def zgj  (d : Int → Int → List Vm.Owner → Option (Int × (List Vm.Owner))) : Nat → Int → Int → List Vm.Owner → Option (Int × (List Vm.Owner))
 | 0, _, _, _ => none
 | m + 1, b, a, c =>
 bif decide ((a : Int) < ((c.length : Int) : Int)) then
 ((Vm.zcd b).bind fun f =>
 (gi c a).bind fun g =>
 (siM c a (Vm.Owner.mk f g.Who)).bind fun e =>
 (Vm.zcd (w64 (b + 1))).bind fun h =>
 (gi e a).bind fun i =>
 (siM e a (Vm.Owner.mk i.Path h)).bind fun j =>
 zgj d m (w64 ((w64 (b + 1)) + 1)) (w64 (a + 1)) j)
 else
 (d b a c)
def ziL (x0 : List Vm.Owner) (x1 : Int) : Option (Int × (List Vm.Owner)) :=
 jn (fun (a : Int) (d : Int) (b : List Vm.Owner) =>
 some (a, b)) fun c =>
 zgj c (((x0.length : Int) - 0).toNat + 1) x1 0 x0
def ziM (x0 : Vm.Review) (x1 : Int) : Option (Int × Vm.Review) :=
 (Vm.zeb x0.Yes x1).bind fun a =>
 some (a.1, Vm.Review.mk x0.Branch x0.Into x0.By a.2)
end Go.Vm
