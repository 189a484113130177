/- Models of the functions: plain Lean, printed by a program of ours. Conditions: none. -/
import Derived.Test.YtkfeiopifiejgaaGreatDoorXLw
import Derived.Test.YtkfeiopifiejgaaGreatDoorXM5
import Derived.Test.YtkfeiopifiejgaaGreatDoorXM6
import Derived.Test.YtkfeiopifiejgaaGreatDoorXM9
namespace Go.Vm
open Go Go.Sx
set_option linter.unusedVariables false
set_option linter.unusedSimpArgs false

def spec_DrawLogNext (x0 : List Byte) : Option (Vm.Repo × (List Int) × Int) :=
  (Vm.spec_DrawLogLeft x0).bind fun z4 =>
  some (Vm.Repo.mk z4.1.Commits z4.1.Heads, z4.2.1, z4.2.2)

def impl_LogNext_l1 (x0 : Vm.Repo) (x1 : List Int) (x2 : Int) (z7 : (List Int)) (K19 : Int → Int → Int → Option (Int)) : Nat → Int → Int → Int → Option (Int)
  | 0, _, _, _ => none
  | m + 1, y12, y13, y17 =>
    bif decide ((y17 : Int) < ((z7.length : Int) : Int)) then
      (jn (fun (y25 : Int) (y26 : Int) =>
        impl_LogNext_l1 x0 x1 x2 z7 K19 m y25 y26 (w64 (y17 + 1))) fun K31 =>
      (gi z7 y17).bind fun u35 =>
      bif ((u35 : Int) == (x2 : Int)) then
        (K31 y12 y13)
      else
        ((apM ([] : List Int) x1).bind fun q42 =>
        (apM q42 [u35]).bind fun q54 =>
        (Vm.impl_Repo_since x0 x2 q54).bind fun z69 =>
        (Vm.impl_Repo_since x0 u35 x1).bind fun z80 =>
        jn (fun (y89 : Bool) =>
          bif y89 then
            (K31 u35 (maxI (z69.length : Int) (z80.length : Int)))
          else
            (K31 y12 y13)) fun K91 =>
        bif decide ((y12 : Int) < (0 : Int)) then
          (K91 true)
        else
          (K91 (decide ((maxI (z69.length : Int) (z80.length : Int) : Int) < (y13 : Int))))))
    else
      (K19 y12 y13 y17)

def impl_LogNext (x0 : Vm.Repo) (x1 : List Int) (x2 : Int) : Option (Int) :=
  (Vm.impl_LogLeft x0 x1 x2).bind fun z7 =>
  jn (fun (y12 : Int) (y13 : Int) (y17 : Int) =>
    some y12) fun K19 =>
  impl_LogNext_l1 x0 x1 x2 z7 K19 (((z7.length : Int) - 0).toNat + 1) (-1) 0 0

def spec_LogNext_l1 (x0 : Vm.Repo) (x1 : List Int) (x2 : Int) (z6 : (List Int)) (K17 : Int → Int → Int → Option (Int)) : Nat → Int → Int → Int → Option (Int)
  | 0, _, _, _ => none
  | m + 1, y11, y12, y13 =>
    bif decide ((y13 : Int) < ((z6.length : Int) : Int)) then
      (jn (fun (y23 : Int) (y24 : Int) =>
        spec_LogNext_l1 x0 x1 x2 z6 K17 m y23 y24 (w64 (y13 + 1))) fun K28 =>
      (gi z6 y13).bind fun u32 =>
      bif ((u32 : Int) == (x2 : Int)) then
        (K28 y11 y12)
      else
        ((apM ([] : List Int) x1).bind fun q43 =>
        (gi z6 y13).bind fun u50 =>
        (apM q43 [u50]).bind fun q57 =>
        (Vm.spec_l12Left x0 q57 x2).bind fun z66 =>
        (gi z6 y13).bind fun u178 =>
        (Vm.spec_l12Left x0 x1 u178).bind fun z183 =>
        jn (fun (y192 : Int) =>
          jn (fun (y202 : Bool) =>
            bif y202 then
              ((gi z6 y13).bind fun u213 =>
              K28 u213 y192)
            else
              (K28 y11 y12)) fun K204 =>
          bif decide ((y11 : Int) < (0 : Int)) then
            (K204 true)
          else
            (K204 (decide ((y192 : Int) < (y12 : Int))))) fun K194 =>
        bif decide (((z66.length : Int) : Int) < ((z183.length : Int) : Int)) then
          (K194 (z183.length : Int))
        else
          (K194 (z66.length : Int))))
    else
      (K17 y11 y12 y13)

def spec_LogNext (x0 : Vm.Repo) (x1 : List Int) (x2 : Int) : Option (Int) :=
  (Vm.spec_LogLeft x0 x1 x2).bind fun z6 =>
  jn (fun (y11 : Int) (y12 : Int) (y13 : Int) =>
    some y11) fun K17 =>
  spec_LogNext_l1 x0 x1 x2 z6 K17 (((z6.length : Int) - 0).toNat + 1) (-1) 0 0

def laws_FnLogNext (x0 : List Byte) : Option (Bool) :=
  bif decide ((1048576 : Int) < ((x0.length : Int) : Int)) then
    (some true)
  else
    ((Vm.spec_DrawLogNext x0).bind fun z2 =>
    (Vm.impl_LogNext (Vm.Repo.mk z2.1.Commits z2.1.Heads) z2.2.1 z2.2.2).bind fun z17 =>
    (Vm.impl_LogLeft (Vm.Repo.mk z2.1.Commits z2.1.Heads) z2.2.1 z2.2.2).bind fun z26 =>
    jn (fun (y34 : Bool) =>
      bif y34 then
        ((Vm.spec_LogNext (Vm.Repo.mk z2.1.Commits z2.1.Heads) z2.2.1 z2.2.2).bind fun z44 =>
        some ((z17 : Int) == (z44 : Int)))
      else
        (bif decide ((z17 : Int) < (0 : Int)) then
          (jn (fun (y54 : Bool) =>
            some y54) fun K56 =>
          bif (((z26.length : Int) : Int) == (1 : Int)) then
            ((gi z26 0).bind fun u64 =>
            K56 ((u64 : Int) == (z2.2.2 : Int)))
          else
            (K56 false))
        else
          ((apM ([] : List Int) z2.2.1).bind fun q80 =>
          (apM q80 [z17]).bind fun q97 =>
          (Vm.impl_LogLeft (Vm.Repo.mk z2.1.Commits z2.1.Heads) q97 z2.2.2).bind fun z108 =>
          (Vm.impl_LogLeft (Vm.Repo.mk z2.1.Commits z2.1.Heads) z2.2.1 z17).bind fun z250 =>
          jn (fun (y262 : Bool) =>
            some y262) fun K264 =>
          (Vm.laws_smIn z26 z17).bind fun z275 =>
          bif z275 then
            (bif ((z17 : Int) != (z2.2.2 : Int)) then
              (bif decide (((z108.length : Int) : Int) < ((z26.length : Int) : Int)) then
                (K264 (decide (((z250.length : Int) : Int) < ((z26.length : Int) : Int))))
              else
                (K264 false))
            else
              (K264 false))
          else
            (K264 false)))) fun K36 =>
    (Vm.spec_LogNext (Vm.Repo.mk z2.1.Commits z2.1.Heads) z2.2.1 z2.2.2).bind fun z291 =>
    bif ((z17 : Int) != (z291 : Int)) then
      (K36 true)
    else
      (K36 (((z26.length : Int) : Int) == (0 : Int))))

end Go.Vm
