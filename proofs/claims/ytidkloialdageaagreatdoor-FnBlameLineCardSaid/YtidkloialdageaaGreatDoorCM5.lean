/- Models of the functions: plain Lean, printed by a program of ours. Conditions: none. -/
import Derived.Test.YtidkloialdageaaGreatDoorCLw
import Derived.Test.YtidkloialdageaaGreatDoorCM0
import Derived.Test.YtidkloialdageaaGreatDoorCM1
import Derived.Test.YtidkloialdageaaGreatDoorCM2
namespace Go.Vm
open Go Go.Sx
set_option linter.unusedVariables false
set_option linter.unusedSimpArgs false
def spec_DrawBlameLine (x0 : List Byte) : Option (Vm.Repo × Int × Str × Int) :=
 (Vm.spec_DrawBlameOf x0).bind fun z4 =>
 some (Vm.Repo.mk z4.1.Commits z4.1.Heads, z4.2.1, z4.2.2, Int.tmod (x0.length : Int) 4)
def slices_Index_int_int_l1 (x0 : List Int) (x1 : Int) (K5 : Int → Int → Option (Int)) : Nat → Int → Int → Option (Int)
 | 0, _, _ => none
 | m + 1, y1, y3 =>
 bif decide ((y3 : Int) < ((x0.length : Int) : Int)) then
 ((gi x0 y3).bind fun u9 =>
 bif ((x1 : Int) == (u9 : Int)) then
 (some y3)
 else
 (slices_Index_int_int_l1 x0 x1 K5 m y1 (w64 (y3 + 1))))
 else
 (K5 y1 y3)
def slices_Index_int_int (x0 : List Int) (x1 : Int) : Option (Int) :=
 jn (fun (y1 : Int) (y3 : Int) =>
 some (-1)) fun K5 =>
 slices_Index_int_int_l1 x0 x1 K5 (((x0.length : Int) - 0).toNat + 1) 0 0
def impl_BlameLine (x0 : Vm.Repo) (x1 : Int) (x2 : Str) (x3 : Int) : Option ((List Int)) :=
 (Vm.impl_BlameOf x0 x1 x2).bind fun z6 =>
 (Vm.impl_within x3 0 (w64 ((z6.length : Int) - 1))).bind fun z11 =>
 bif (!z11) then
 (some ([] : List Int))
 else
 ((Vm.impl_Repo_line x0 x1).bind fun z20 =>
 (gi z6 x3).bind fun u26 =>
 (Vm.slices_Index_int_int z20 u26).bind fun z28 =>
 (slM z20 0 (w64 (z28 + 1))).bind fun q35 =>
 some q35)
def spec_BlameLine_l2 (z94 : (List Int)) (K105 : Int → Option ((List Int)))  : Nat → Int → Int → Option ((List Int))
 | 0, _, _ => none
 | m + 1, y129, y130 =>
 bif decide ((y130 : Int) < ((z94.length : Int) : Int)) then
 ((gi z94 y130).bind fun u141 =>
 bif ((u141 : Int) == (y129 : Int)) then
 (K105 y130)
 else
 (spec_BlameLine_l2 z94 K105 m y129 (w64 (y130 + 1))))
 else
 (K105 y129)
def spec_BlameLine_l1 (x0 : Vm.Repo) (x2 : Str) (K37 : Int → Int → List Int → List Int → Option ((List Int))) : Nat → Int → Int → List Int → List Int → Option ((List Int))
 | 0, _, _, _, _ => none
 | m + 1, y22, y23, y24, y27 =>
 (gi y27 y23).bind fun u41 =>
 bif ((y22 : Int) != (u41 : Int)) then
 ((apM y24 [y22]).bind fun q49 =>
 (gi x0.Commits y22).bind fun u56 =>
 (Vm.spec_l4Get u56.Tree x2).bind fun z62 =>
 (gi x0.Commits y22).bind fun u71 =>
 (gi u71.Parents 0).bind fun u77 =>
 (gi x0.Commits u77).bind fun u79 =>
 (Vm.spec_l4Get u79.Tree x2).bind fun z84 =>
 (Vm.spec_l1Match z84.1 z62.1).bind fun z94 =>
 jn (fun (y102 : Int) =>
 (Vm.spec_l11Of x0 u77 x2).bind fun z114 =>
 spec_BlameLine_l1 x0 x2 K37 m u77 y102 q49 z114) fun K105 =>
 spec_BlameLine_l2 z94 K105 (((z94.length : Int) - 0).toNat + 1) y23 0)
 else
 (K37 y22 y23 y24 y27)
def spec_BlameLine (x0 : Vm.Repo) (x1 : Int) (x2 : Str) (x3 : Int) : Option ((List Int)) :=
 (Vm.spec_BlameOf x0 x1 x2).bind fun z8 =>
 (Vm.spec_l1In x3 0 (w64 ((z8.length : Int) - 1))).bind fun z14 =>
 bif (!z14) then
 (some ([] : List Int))
 else
 (jn (fun (y22 : Int) (y23 : Int) (y24 : List Int) (y27 : List Int) =>
 (apM y24 [y22]).bind fun q149 =>
 some q149) fun K37 =>
 spec_BlameLine_l1 x0 x2 K37 (x1.toNat + 2) x1 x3 ([] : List Int) z8)
def laws_FnBlameLine_l1 (z2 : Vm.Repo × Int × Str × Int) (z15 : (List Int)) (z49 : (List Int)) (z63 : (List Str) × Bool) (K77 : Bool → Int → Option (Bool)) : Nat → Bool → Int → Option (Bool)
 | 0, _, _ => none
 | m + 1, y72, y73 =>
 bif decide ((y73 : Int) < ((z15.length : Int) : Int)) then
 ((gi z15 y73).bind fun u95 =>
 (gi z2.1.Commits u95).bind fun u97 =>
 (Vm.impl_TreeGet u97.Tree z2.2.2.1).bind fun z103 =>
 jn (fun (y113 : Bool) =>
 bif y113 then
 (some false)
 else
 (laws_FnBlameLine_l1 z2 z15 z49 z63 K77 m y72 (w64 (y73 + 1)))) fun K115 =>
 (gi z49 y73).bind fun u134 =>
 (gi z15 y73).bind fun u136 =>
 bif ((u134 : Int) != (u136 : Int)) then
 (K115 true)
 else
 ((gi z63.1 z2.2.2.2).bind fun u139 =>
 (Vm.laws_smHas z103.1 u139).bind fun z141 =>
 K115 (!z141)))
 else
 (K77 y72 y73)
def laws_FnBlameLine (x0 : List Byte) : Option (Bool) :=
 bif decide ((1048576 : Int) < ((x0.length : Int) : Int)) then
 (some true)
 else
 ((Vm.spec_DrawBlameLine x0).bind fun z2 =>
 (Vm.impl_BlameLine (Vm.Repo.mk z2.1.Commits z2.1.Heads) z2.2.1 z2.2.2.1 z2.2.2.2).bind fun z15 =>
 jn (fun (y22 : Bool) =>
 bif y22 then
 ((Vm.spec_BlameLine (Vm.Repo.mk z2.1.Commits z2.1.Heads) z2.2.1 z2.2.2.1 z2.2.2.2).bind fun z31 =>
 (Vm.laws_smInts z15 z31).bind fun z39 =>
 some z39)
 else
 ((Vm.impl_AncLine (Vm.Repo.mk z2.1.Commits z2.1.Heads) z2.2.1).bind fun z49 =>
 (gi z2.1.Commits z2.2.1).bind fun u57 =>
 (Vm.impl_TreeGet u57.Tree z2.2.2.1).bind fun z63 =>
 jn (fun (y72 : Bool) (y73 : Int) =>
 (Vm.impl_BlameOf (Vm.Repo.mk z2.1.Commits z2.1.Heads) z2.2.1 z2.2.2.1).bind fun z161 =>
 (gi z161 z2.2.2.2).bind fun u171 =>
 (gi z15 (w64 ((z15.length : Int) - 1))).bind fun u173 =>
 some ((u171 : Int) == (u173 : Int))) fun K77 =>
 laws_FnBlameLine_l1 z2 z15 z49 z63 K77 (((z15.length : Int) - 0).toNat + 1) false 0)) fun K24 =>
 (Vm.spec_BlameLine (Vm.Repo.mk z2.1.Commits z2.1.Heads) z2.2.1 z2.2.2.1 z2.2.2.2).bind fun z323 =>
 (Vm.laws_smInts z15 z323).bind fun z331 =>
 bif (!z331) then
 (K24 true)
 else
 (K24 (((z15.length : Int) : Int) == (0 : Int))))
end Go.Vm
