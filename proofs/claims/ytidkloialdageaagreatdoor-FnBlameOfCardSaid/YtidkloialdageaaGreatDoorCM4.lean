/- Models of the functions: plain Lean, printed by a program of ours. Conditions: none. -/
import Derived.Test.YtidkloialdageaaGreatDoorCLw
import Derived.Test.YtidkloialdageaaGreatDoorCM0
import Derived.Test.YtidkloialdageaaGreatDoorCM1
import Derived.Test.YtidkloialdageaaGreatDoorCM2
import Derived.Test.YtidkloialdageaaGreatDoorCM3
namespace Go.Vm
open Go Go.Sx
set_option linter.unusedVariables false
set_option linter.unusedSimpArgs false
def impl_DiffMatch (x0 : List Str) (x1 : List Str) : Option ((List Int)) :=
 jn (fun (y1 : Bool) =>
 bif y1 then
 (some ([] : List Int))
 else
 ((Vm.impl_match x0 x1).bind fun z8 =>
 some z8)) fun K3 =>
 (Vm.impl_TextOk x0).bind fun z12 =>
 bif (!z12) then
 (K3 true)
 else
 ((Vm.impl_TextOk x1).bind fun z18 =>
 K3 (!z18))
def laws_FnBlameOf_l2 (z2 : Vm.Repo × Int × Str) (z15 : (List Int)) (z194 : (List Int)) (K208 : Bool → Int → Option (Bool)) : Nat → Bool → Int → Option (Bool)
 | 0, _, _ => none
 | m + 1, y205, y206 =>
 bif decide ((y206 : Int) < ((z15.length : Int) : Int)) then
 ((gi z15 y206).bind fun u230 =>
 (Vm.laws_smIn z194 y206).bind fun z232 =>
 bif (((u230 : Int) == (z2.2.1 : Int)) == z232) then
 (some false)
 else
 (laws_FnBlameOf_l2 z2 z15 z194 K208 m y205 (w64 (y206 + 1))))
 else
 (K208 y205 y206)
def laws_FnBlameOf_l1 (z2 : Vm.Repo × Int × Str) (z15 : (List Int)) (z54 : (List Str) × Bool) (z63 : (List Int)) (K77 : Bool → Int → Option (Bool)) : Nat → Bool → Int → Option (Bool)
 | 0, _, _ => none
 | m + 1, y72, y73 =>
 bif decide ((y73 : Int) < ((z15.length : Int) : Int)) then
 ((gi z15 y73).bind fun u95 =>
 (gi z2.1.Commits u95).bind fun u97 =>
 (Vm.impl_TreeGet u97.Tree z2.2.2).bind fun z103 =>
 jn (fun (y113 : Bool) =>
 bif y113 then
 (some false)
 else
 (laws_FnBlameOf_l1 z2 z15 z54 z63 K77 m y72 (w64 (y73 + 1)))) fun K115 =>
 (gi z15 y73).bind fun u125 =>
 (Vm.laws_smIn z63 u125).bind fun z127 =>
 bif (!z127) then
 (K115 true)
 else
 (bif (!z103.2) then
 (K115 true)
 else
 ((gi z54.1 y73).bind fun u140 =>
 (Vm.laws_smHas z103.1 u140).bind fun z142 =>
 K115 (!z142))))
 else
 (K77 y72 y73)
def laws_FnBlameOf (x0 : List Byte) : Option (Bool) :=
 bif decide ((1048576 : Int) < ((x0.length : Int) : Int)) then
 (some true)
 else
 ((Vm.spec_DrawBlameOf x0).bind fun z2 =>
 (Vm.impl_BlameOf (Vm.Repo.mk z2.1.Commits z2.1.Heads) z2.2.1 z2.2.2).bind fun z15 =>
 jn (fun (y22 : Bool) =>
 bif y22 then
 ((Vm.spec_BlameOf (Vm.Repo.mk z2.1.Commits z2.1.Heads) z2.2.1 z2.2.2).bind fun z31 =>
 (Vm.laws_smInts z15 z31).bind fun z39 =>
 some z39)
 else
 ((gi z2.1.Commits z2.2.1).bind fun u48 =>
 (Vm.impl_TreeGet u48.Tree z2.2.2).bind fun z54 =>
 (Vm.impl_AncLine (Vm.Repo.mk z2.1.Commits z2.1.Heads) z2.2.1).bind fun z63 =>
 jn (fun (y72 : Bool) (y73 : Int) =>
 bif decide (((z63.length : Int) : Int) < (2 : Int)) then
 (jn (fun (y154 : Bool) =>
 some y154) fun K156 =>
 bif z54.2 then
 (bif (((z15.length : Int) : Int) == ((z54.1.length : Int) : Int)) then
 ((gi z15 0).bind fun u166 =>
 K156 ((u166 : Int) == (z2.2.1 : Int)))
 else
 (K156 false))
 else
 (K156 false))
 else
 ((gi z63 1).bind fun u176 =>
 (gi z2.1.Commits u176).bind fun u178 =>
 (Vm.impl_TreeGet u178.Tree z2.2.2).bind fun z184 =>
 (Vm.impl_DiffMatch z184.1 z54.1).bind fun z194 =>
 jn (fun (y205 : Bool) (y206 : Int) =>
 jn (fun (y245 : Bool) =>
 some y245) fun K247 =>
 bif z54.2 then
 (K247 (((z15.length : Int) : Int) == ((z54.1.length : Int) : Int)))
 else
 (K247 false)) fun K208 =>
 laws_FnBlameOf_l2 z2 z15 z194 K208 (((z15.length : Int) - 0).toNat + 1) y72 0)) fun K77 =>
 laws_FnBlameOf_l1 z2 z15 z54 z63 K77 (((z15.length : Int) - 0).toNat + 1) false 0)) fun K24 =>
 (Vm.spec_BlameOf (Vm.Repo.mk z2.1.Commits z2.1.Heads) z2.2.1 z2.2.2).bind fun z258 =>
 (Vm.laws_smInts z15 z258).bind fun z266 =>
 bif (!z266) then
 (K24 true)
 else
 (K24 (((z15.length : Int) : Int) == (0 : Int))))
end Go.Vm
