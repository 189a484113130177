/- Models of the functions: plain Lean, printed by a program of ours. Conditions: none. -/
import Derived.Test.YtidkloialdageaaGreatDoorXLw
import Derived.Test.YtidkloialdageaaGreatDoorXM0
import Derived.Test.YtidkloialdageaaGreatDoorXM1
namespace Go.Vm
open Go Go.Sx
set_option linter.unusedVariables false
set_option linter.unusedSimpArgs false

def impl_Repo_own_l1 (x0 : Vm.Repo) (K38 : Int → List Vm.Commit → List Vm.Head → Option (Vm.Repo)) : Nat → Int → List Vm.Commit → List Vm.Head → Option (Vm.Repo)
  | 0, _, _, _ => none
  | m + 1, y29, y30, y33 =>
    bif decide ((y29 : Int) < ((x0.Commits.length : Int) : Int)) then
      ((gi x0.Commits y29).bind fun u44 =>
      (apM ([] : List Int) u44.Parents).bind fun q84 =>
      (Vm.impl_copyTree u44.Tree).bind fun z96 =>
      (apM y30 [Vm.Commit.mk q84 u44.Who z96]).bind fun q117 =>
      impl_Repo_own_l1 x0 K38 m (w64 (y29 + 1)) q117 y33)
    else
      (K38 y29 y30 y33)

def impl_Repo_own (x0 : Vm.Repo) : Option (Vm.Repo) :=
  (apM ([] : List Head) x0.Heads).bind fun q10 =>
  jn (fun (y29 : Int) (y30 : List Vm.Commit) (y33 : List Vm.Head) =>
    some (Vm.Repo.mk y30 y33)) fun K38 =>
  impl_Repo_own_l1 x0 K38 (((x0.Commits.length : Int) - 0).toNat + 1) 0 ([] : List Commit) q10

def impl_RepoDrop_c1 (x0 : Vm.Head) (x1 : Str) : Option (Bool) :=
  some (x0.Name == x1)

def slices_IndexFunc_impl_Head_impl_Head_at_impl_RepoDrop_c1_l1 (x0 : List Vm.Head) (x2 : Str) (K6 : Int → Int → Option (Int)) : Nat → Int → Int → Option (Int)
  | 0, _, _ => none
  | m + 1, y1, y3 =>
    bif decide ((y3 : Int) < ((x0.length : Int) : Int)) then
      ((gi x0 y3).bind fun u10 =>
      (Vm.impl_RepoDrop_c1 u10 x2).bind fun z16 =>
      bif z16 then
        (some y3)
      else
        (slices_IndexFunc_impl_Head_impl_Head_at_impl_RepoDrop_c1_l1 x0 x2 K6 m y1 (w64 (y3 + 1))))
    else
      (K6 y1 y3)

def slices_IndexFunc_impl_Head_impl_Head_at_impl_RepoDrop_c1 (x0 : List Vm.Head) (x2 : Str) : Option (Int) :=
  jn (fun (y1 : Int) (y3 : Int) =>
    some (-1)) fun K6 =>
  slices_IndexFunc_impl_Head_impl_Head_at_impl_RepoDrop_c1_l1 x0 x2 K6 (((x0.length : Int) - 0).toNat + 1) 0 0

def slices_DeleteFunc_impl_Head_impl_Head_at_impl_RepoDrop_c1_l1 (x2 : Str) (K17 : Int → Int → List Vm.Head → Option ((List Vm.Head))) : Nat → Int → Int → List Vm.Head → Option ((List Vm.Head))
  | 0, _, _, _ => none
  | m + 1, y10, y11, y14 =>
    bif decide ((y11 : Int) < ((y14.length : Int) : Int)) then
      (jn (fun (y21 : Int) (y24 : List Vm.Head) =>
        slices_DeleteFunc_impl_Head_impl_Head_at_impl_RepoDrop_c1_l1 x2 K17 m y21 (w64 (y11 + 1)) y24) fun K27 =>
      (gi y14 y11).bind fun u29 =>
      (Vm.impl_RepoDrop_c1 u29 x2).bind fun z42 =>
      bif (!z42) then
        ((gi y14 y10).bind fun u49 =>
        (siM y14 y10 u29).bind fun q52 =>
        K27 (w64 (y10 + 1)) q52)
      else
        (K27 y10 y14))
    else
      (K17 y10 y11 y14)

def slices_DeleteFunc_impl_Head_impl_Head_at_impl_RepoDrop_c1 (x0 : List Vm.Head) (x2 : Str) : Option ((List Vm.Head)) :=
  (Vm.slices_IndexFunc_impl_Head_impl_Head_at_impl_RepoDrop_c1 x0 x2).bind fun z1 =>
  bif ((z1 : Int) == ((-1) : Int)) then
    (some x0)
  else
    (jn (fun (y10 : Int) (y11 : Int) (y14 : List Vm.Head) =>
      (slM y14 y10 (y14.length : Int)).bind fun q57 =>
      (slM (clM y14 (y10 : Int).toNat (Vm.Head.mk ([] : Str) 0 : Vm.Head)) 0 y10).bind fun q64 =>
      some q64) fun K17 =>
    slices_DeleteFunc_impl_Head_impl_Head_at_impl_RepoDrop_c1_l1 x2 K17 (((x0.length : Int) - (w64 (z1 + 1))).toNat + 1) z1 (w64 (z1 + 1)) x0)

def impl_RepoDrop (x0 : Vm.Repo) (x1 : Str) : Option (Vm.Repo × Bool) :=
  (Vm.impl_RepoOk x0).bind fun z13 =>
  bif (!z13) then
    (some (Vm.Repo.mk ([] : List Commit) ([] : List Head), false))
  else
    ((Vm.impl_Repo_own x0).bind fun z27 =>
    (Vm.slices_DeleteFunc_impl_Head_impl_Head_at_impl_RepoDrop_c1 z27.Heads x1).bind fun z48 =>
    some (Vm.Repo.mk z27.Commits z48, decide (((z48.length : Int) : Int) < ((x0.Heads.length : Int) : Int))))

end Go.Vm
