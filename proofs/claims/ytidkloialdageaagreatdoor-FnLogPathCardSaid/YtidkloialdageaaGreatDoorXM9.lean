/- Models of the functions: plain Lean, printed by a program of ours. Conditions: none. -/
import Derived.Test.YtidkloialdageaaGreatDoorXLw
import Derived.Test.YtidkloialdageaaGreatDoorXM0
import Derived.Test.YtidkloialdageaaGreatDoorXM1
import Derived.Test.YtidkloialdageaaGreatDoorXM3
import Derived.Test.YtidkloialdageaaGreatDoorXM5
namespace Go.Vm
open Go Go.Sx
set_option linter.unusedVariables false
set_option linter.unusedSimpArgs false

def spec_DrawRepoBranch (x0 : List Byte) : Option (Vm.Repo × Str × Int) :=
  (Vm.spec_l30Open x0).bind fun z4 =>
  (Vm.spec_l30AnyRepo z4).bind fun z10 =>
  (Vm.spec_l30Rd_of (Vm.l30Rd.mk z4.b z10.2) ([([110, 101, 119] : Str), ([109, 97, 105, 110] : Str), ([111, 108, 100] : Str), ([] : Str)] : List Str)).bind fun z42 =>
  (Vm.spec_l30At (Vm.l30Rd.mk z4.b z42.2) (Vm.Repo.mk z10.1.Commits z10.1.Heads)).bind fun z52 =>
  some (Vm.Repo.mk z10.1.Commits z10.1.Heads, z42.1, z52.1)

def slices_Insert_impl_Head_impl_Head (x0 : List Vm.Head) (x1 : Int) (x2 : Vm.Head) : Option ((List Vm.Head)) :=
  if 0 ≤ x1 ∧ x1 ≤ x0.length ∧ x0.length + 1 ≤ lim then some (x0.take x1.toNat ++ [x2] ++ x0.drop x1.toNat) else none

def impl_insertHead_l1 (x0 : List Vm.Head) (x1 : Vm.Head) (K6 : Int → Option ((List Vm.Head))) : Nat → Int → Option ((List Vm.Head))
  | 0, _ => none
  | m + 1, y4 =>
    jn (fun (y10 : Bool) =>
      bif y10 then
        (impl_insertHead_l1 x0 x1 K6 m (w64 (y4 - 1)))
      else
        (K6 y4)) fun K12 =>
    bif decide ((0 : Int) < (y4 : Int)) then
      ((gi x0 (w64 (y4 - 1))).bind fun u92 =>
      K12 (!(Op.bytesLess u92.Name x1.Name || u92.Name == x1.Name)))
    else
      (K12 false)

def impl_insertHead (x0 : List Vm.Head) (x1 : Vm.Head) : Option ((List Vm.Head)) :=
  jn (fun (y4 : Int) =>
    (apM ([] : List Head) x0).bind fun q22 =>
    (Vm.slices_Insert_impl_Head_impl_Head q22 y4 x1).bind fun z32 =>
    some z32) fun K6 =>
  impl_insertHead_l1 x0 x1 K6 (x0.length + 1) (x0.length : Int)

def impl_Repo_point_l1 (x0 : Vm.Repo) (x1 : Str) (x2 : Int) (K22 : Int → List Vm.Commit → List Vm.Head → List Vm.Head → Option (Vm.Repo)) : Nat → Int → List Vm.Commit → List Vm.Head → List Vm.Head → Option (Vm.Repo)
  | 0, _, _, _, _ => none
  | m + 1, y11, y12, y15, y19 =>
    bif decide ((y11 : Int) < ((x0.Heads.length : Int) : Int)) then
      ((gi y19 y11).bind fun u28 =>
      bif (u28.Name == x1) then
        ((gi y19 y11).bind fun u31 =>
        (siM y19 y11 (Vm.Head.mk u31.Name x2)).bind fun q34 =>
        some (Vm.Repo.mk x0.Commits q34))
      else
        (impl_Repo_point_l1 x0 x1 x2 K22 m (w64 (y11 + 1)) y12 y15 y19))
    else
      (K22 y11 y12 y15 y19)

def impl_Repo_point (x0 : Vm.Repo) (x1 : Str) (x2 : Int) : Option (Vm.Repo) :=
  jn (fun (y11 : Int) (y12 : List Vm.Commit) (y15 : List Vm.Head) (y19 : List Vm.Head) =>
    (Vm.impl_insertHead y19 (Vm.Head.mk x1 x2)).bind fun z63 =>
    some (Vm.Repo.mk x0.Commits z63)) fun K22 =>
  impl_Repo_point_l1 x0 x1 x2 K22 (((x0.Heads.length : Int) - 0).toNat + 1) 0 ([] : List Commit) ([] : List Head) x0.Heads

def impl_Repo_tried (x0 : Vm.Repo) (x1 : Vm.Repo) : Option (Vm.Repo × Bool) :=
  (Vm.impl_RepoOk (Vm.Repo.mk x1.Commits x1.Heads)).bind fun z17 =>
  bif (!z17) then
    ((Vm.impl_Repo_own x0).bind fun z29 =>
    some (Vm.Repo.mk z29.Commits z29.Heads, false))
  else
    (some (Vm.Repo.mk x1.Commits x1.Heads, true))

def impl_RepoBranch (x0 : Vm.Repo) (x1 : Str) (x2 : Int) : Option (Vm.Repo × Bool) :=
  (Vm.impl_RepoOk x0).bind fun z9 =>
  bif (!z9) then
    (some (Vm.Repo.mk ([] : List Commit) ([] : List Head), false))
  else
    ((Vm.impl_Repo_at x0 x1).bind fun z21 =>
    bif decide ((0 : Int) ≤ (z21 : Int)) then
      ((Vm.impl_Repo_own x0).bind fun z30 =>
      some (Vm.Repo.mk z30.Commits z30.Heads, false))
    else
      ((Vm.impl_Repo_own x0).bind fun z57 =>
      (Vm.impl_Repo_point (Vm.Repo.mk z57.Commits z57.Heads) x1 x2).bind fun z63 =>
      (Vm.impl_Repo_tried x0 (Vm.Repo.mk z63.Commits z63.Heads)).bind fun z72 =>
      some (Vm.Repo.mk z72.1.Commits z72.1.Heads, z72.2)))

def laws_FnRepoBranch (x0 : List Byte) : Option (Bool) :=
  bif decide ((1048576 : Int) < ((x0.length : Int) : Int)) then
    (some true)
  else
    ((Vm.spec_DrawRepoBranch x0).bind fun z2 =>
    (Vm.impl_RepoBranch (Vm.Repo.mk z2.1.Commits z2.1.Heads) z2.2.1 z2.2.2).bind fun z15 =>
    (Vm.spec_RepoBranch (Vm.Repo.mk z2.1.Commits z2.1.Heads) z2.2.1 z2.2.2).bind fun z36 =>
    jn (fun (y64 : Bool) =>
      bif y64 then
        (jn (fun (y76 : Bool) =>
          some y76) fun K78 =>
        bif (z15.2 == z36.2) then
          ((Vm.laws_smRepo (Vm.Repo.mk z15.1.Commits z15.1.Heads) z36.1).bind fun z90 =>
          K78 z90)
        else
          (K78 false))
      else
        (bif (!z15.2) then
          ((Vm.laws_smRepo (Vm.Repo.mk z15.1.Commits z15.1.Heads) (Vm.Repo.mk z2.1.Commits z2.1.Heads)).bind fun z102 =>
          some z102)
        else
          ((Vm.impl_RepoDrop (Vm.Repo.mk z15.1.Commits z15.1.Heads) z2.2.1).bind fun z114 =>
          jn (fun (y147 : Bool) =>
            some y147) fun K149 =>
          (Vm.impl_RepoOk (Vm.Repo.mk z15.1.Commits z15.1.Heads)).bind fun z162 =>
          bif z162 then
            ((Vm.impl_RepoAt (Vm.Repo.mk z15.1.Commits z15.1.Heads) z2.2.1).bind fun z178 =>
            bif ((z178 : Int) == (z2.2.2 : Int)) then
              (bif z114.2 then
                ((Vm.laws_smRepo (Vm.Repo.mk z114.1.Commits z114.1.Heads) (Vm.Repo.mk z2.1.Commits z2.1.Heads)).bind fun z194 =>
                K149 z194)
              else
                (K149 false))
            else
              (K149 false))
          else
            (K149 false)))) fun K66 =>
    bif (z15.2 != z36.2) then
      (K66 true)
    else
      ((Vm.laws_smRepo (Vm.Repo.mk z15.1.Commits z15.1.Heads) z36.1).bind fun z211 =>
      bif (!z211) then
        (K66 true)
      else
        ((Vm.impl_RepoOk (Vm.Repo.mk z2.1.Commits z2.1.Heads)).bind fun z224 =>
        K66 (!z224))))

end Go.Vm
