/- Models of the functions: plain Lean, printed by a program of ours. Conditions: none. -/
import Derived.Test.YtidkloialdageaaGreatDoorBLw
import Derived.Test.YtidkloialdageaaGreatDoorBM0
import Derived.Test.YtidkloialdageaaGreatDoorBM1
import Derived.Test.YtidkloialdageaaGreatDoorBM3
namespace Go.Vm
open Go Go.Sx
set_option linter.unusedVariables false
set_option linter.unusedSimpArgs false

def spec_DrawSendTake (x0 : List Byte) : Option (Vm.Repo × (List Int) × (List Vm.Commit) × Str) :=
  (Vm.spec_l30Open x0).bind fun z4 =>
  (Vm.spec_l30Repo z4).bind fun z10 =>
  jn (fun (y34 : List Int) (y37 : List Byte) (y40 : Int) =>
    (Vm.spec_l30At (Vm.l30Rd.mk y37 y40) (Vm.Repo.mk z10.1.Commits z10.1.Heads)).bind fun z58 =>
    (Vm.spec_SendOf (Vm.Repo.mk z10.1.Commits z10.1.Heads) y34 z58.1).bind fun z67 =>
    jn (fun (y77 : List Vm.Commit) =>
      jn (fun (y89 : List Byte) (y92 : Int) (y94 : List Vm.Commit) =>
        (Vm.spec_l30Rd_of (Vm.l30Rd.mk y89 y92) ([([110, 101, 119] : Str), ([109, 97, 105, 110] : Str), ([120] : Str)] : List Str)).bind fun z123 =>
        some (Vm.Repo.mk z10.1.Commits z10.1.Heads, y34, y94, z123.1)) fun K97 =>
      jn (fun (y179 : Bool) (y180 : List Byte) (y183 : Int) =>
        bif y179 then
          ((Vm.spec_l30Rd_one (Vm.l30Rd.mk y180 y183) ([(-99), 5, 0] : List Int)).bind fun z205 =>
          (gi y77 0).bind fun u226 =>
          (siM y77 0 (Vm.Commit.mk ([z205.1] : List Int) u226.Who u226.Tree)).bind fun q229 =>
          K97 y180 z205.2 q229)
        else
          (K97 y180 y183 y77)) fun K186 =>
      bif decide ((0 : Int) < ((y77.length : Int) : Int)) then
        ((Vm.spec_l30Rd_pick (Vm.l30Rd.mk y37 z58.2) 8).bind fun z242 =>
        K186 ((z242.1 : Int) == (0 : Int)) y37 z242.2)
      else
        (K186 false y37 z58.2)) fun K81 =>
    bif decide ((3 : Int) < ((z67.1.length : Int) : Int)) then
      ((slM z67.1 0 3).bind fun q255 =>
      K81 q255)
    else
      (K81 z67.1)) fun K43 =>
  bif decide ((0 : Int) < ((z10.1.Commits.length : Int) : Int)) then
    ((Vm.spec_l30Rd_pick (Vm.l30Rd.mk z4.b z10.2) (z10.1.Commits.length : Int)).bind fun z268 =>
    (Vm.spec_l8All (Vm.Repo.mk z10.1.Commits z10.1.Heads) z268.1).bind fun z277 =>
    K43 z277 z4.b z268.2)
  else
    (K43 ([] : List Int) z4.b z10.2)

def spec_SendTake_l2 (x0 : Vm.Repo) (x1 : List Int) (y50 : Int) (K130 : Bool → Int → List Vm.Commit → List Vm.Head → List Int → Option (Vm.Repo × Bool)) : Nat → Bool → Int → List Vm.Commit → List Vm.Head → List Int → Option (Vm.Repo × Bool)
  | 0, _, _, _, _, _ => none
  | m + 1, y117, y118, y120, y123, y127 =>
    bif decide ((y118 : Int) < ((y127.length : Int) : Int)) then
      (jn (fun (y140 : Bool) (y142 : List Vm.Commit) (y145 : List Vm.Head) (y149 : List Int) =>
        spec_SendTake_l2 x0 x1 y50 K130 m y140 (w64 (y118 + 1)) y142 y145 y149) fun K152 =>
      (gi y127 y118).bind fun u160 =>
      (Vm.spec_l1In u160 0 (w64 (y50 - 1))).bind fun z162 =>
      bif z162 then
        ((gi y127 y118).bind fun u177 =>
        (siM y127 y118 (w64 ((x0.Commits.length : Int) + u160))).bind fun q180 =>
        K152 y117 y120 y123 q180)
      else
        (jn (fun (y192 : Bool) =>
          bif y192 then
            ((gi x1 (w64 ((-1) - u160))).bind fun u219 =>
            (gi y127 y118).bind fun u222 =>
            (siM y127 y118 u219).bind fun q225 =>
            K152 y117 y120 y123 q225)
          else
            ((Vm.spec_l7Copy x0).bind fun z239 =>
            some (Vm.Repo.mk z239.Commits z239.Heads, false))) fun K194 =>
        (Vm.spec_l1In (w64 ((-1) - u160)) 0 (w64 ((x1.length : Int) - 1))).bind fun z295 =>
        bif z295 then
          (K194 (decide ((u160 : Int) < (0 : Int))))
        else
          (K194 false)))
    else
      (K130 y117 y118 y120 y123 y127)

def spec_SendTake_l1 (x0 : Vm.Repo) (x1 : List Int) (x2 : List Vm.Commit) (K69 : Bool → Int → Int → List Vm.Commit → List Vm.Head → List Vm.Commit → List Vm.Head → Option (Vm.Repo × Bool)) : Nat → Bool → Int → Int → List Vm.Commit → List Vm.Head → List Vm.Commit → List Vm.Head → Option (Vm.Repo × Bool)
  | 0, _, _, _, _, _, _, _ => none
  | m + 1, y48, y49, y50, y54, y57, y61, y64 =>
    bif decide ((y50 : Int) < ((x2.length : Int) : Int)) then
      ((gi x2 y50).bind fun u75 =>
      (Vm.spec_l7CopyCommit u75).bind fun z84 =>
      jn (fun (y117 : Bool) (y118 : Int) (y120 : List Vm.Commit) (y123 : List Vm.Head) (y127 : List Int) =>
        (apM y54 [Vm.Commit.mk y127 z84.Who z84.Tree]).bind fun q322 =>
        spec_SendTake_l1 x0 x1 x2 K69 m y117 (w64 ((q322.length : Int) - 1)) (w64 (y50 + 1)) q322 y57 y120 y123) fun K130 =>
      spec_SendTake_l2 x0 x1 y50 K130 (((z84.Parents.length : Int) - 0).toNat + 1) y48 0 y61 y64 z84.Parents)
    else
      (K69 y48 y49 y50 y54 y57 y61 y64)

def spec_SendTake (x0 : Vm.Repo) (x1 : List Int) (x2 : List Vm.Commit) (x3 : Str) : Option (Vm.Repo × Bool) :=
  (Vm.spec_l7Ok x0).bind fun z8 =>
  bif (!z8) then
    (some (Vm.Repo.mk ([] : List Commit) ([] : List Head), false))
  else
    ((Vm.spec_l7Copy x0).bind fun z20 =>
    jn (fun (y39 : Int) =>
      jn (fun (y48 : Bool) (y49 : Int) (y50 : Int) (y54 : List Vm.Commit) (y57 : List Vm.Head) (y61 : List Vm.Commit) (y64 : List Vm.Head) =>
        (Vm.spec_l7Head (Vm.Repo.mk y54 y57) x3 y49).bind fun z344 =>
        jn (fun (y365 : Bool) =>
          bif y365 then
            ((Vm.spec_l7Copy x0).bind fun z379 =>
            some (Vm.Repo.mk z379.Commits z379.Heads, false))
          else
            (some (z344, true))) fun K367 =>
        (Vm.spec_l12Any x0 x1).bind fun z456 =>
        bif (!z456) then
          (K367 true)
        else
          ((Vm.spec_l7Ok z344).bind fun z470 =>
          K367 (!z470))) fun K69 =>
      spec_SendTake_l1 x0 x1 x2 K69 (((x2.length : Int) - 0).toNat + 1) false y39 0 z20.Commits z20.Heads ([] : List Commit) ([] : List Head)) fun K41 =>
    bif decide ((0 : Int) < ((x1.length : Int) : Int)) then
      ((gi x1 0).bind fun u483 =>
      K41 u483)
    else
      (K41 (-1)))

def laws_smRepo_l2 (x0 : Vm.Repo) (x1 : Vm.Repo) (K57 : Bool → Int → Option (Bool)) : Nat → Bool → Int → Option (Bool)
  | 0, _, _ => none
  | m + 1, y54, y55 =>
    bif decide ((y55 : Int) < ((x0.Heads.length : Int) : Int)) then
      ((gi x0.Heads y55).bind fun u68 =>
      (gi x1.Heads y55).bind fun u74 =>
      bif (!(u68.Name == u74.Name && u68.At == u74.At)) then
        (some false)
      else
        (laws_smRepo_l2 x0 x1 K57 m y54 (w64 (y55 + 1))))
    else
      (K57 y54 y55)

def laws_smRepo_l1 (x0 : Vm.Repo) (x1 : Vm.Repo) (K16 : Bool → Int → Option (Bool)) : Nat → Bool → Int → Option (Bool)
  | 0, _, _ => none
  | m + 1, y13, y14 =>
    bif decide ((y14 : Int) < ((x0.Commits.length : Int) : Int)) then
      ((gi x0.Commits y14).bind fun u27 =>
      (gi x1.Commits y14).bind fun u37 =>
      (Vm.laws_smCommit u27 u37).bind fun z47 =>
      bif (!z47) then
        (some false)
      else
        (laws_smRepo_l1 x0 x1 K16 m y13 (w64 (y14 + 1))))
    else
      (K16 y13 y14)

def laws_smRepo (x0 : Vm.Repo) (x1 : Vm.Repo) : Option (Bool) :=
  jn (fun (y6 : Bool) =>
    bif y6 then
      (some false)
    else
      (jn (fun (y13 : Bool) (y14 : Int) =>
        jn (fun (y54 : Bool) (y55 : Int) =>
          some true) fun K57 =>
        laws_smRepo_l2 x0 x1 K57 (((x0.Heads.length : Int) - 0).toNat + 1) y13 0) fun K16 =>
      laws_smRepo_l1 x0 x1 K16 (((x0.Commits.length : Int) - 0).toNat + 1) false 0)) fun K8 =>
  bif (((x0.Commits.length : Int) : Int) != ((x1.Commits.length : Int) : Int)) then
    (K8 true)
  else
    (K8 (((x0.Heads.length : Int) : Int) != ((x1.Heads.length : Int) : Int)))

def laws_smKeeps_l1 (x0 : Vm.Repo) (x1 : Vm.Repo) (K12 : Bool → Int → Option (Bool)) : Nat → Bool → Int → Option (Bool)
  | 0, _, _ => none
  | m + 1, y9, y10 =>
    bif decide ((y10 : Int) < ((x1.Commits.length : Int) : Int)) then
      ((gi x0.Commits y10).bind fun u23 =>
      (gi x1.Commits y10).bind fun u33 =>
      (Vm.laws_smCommit u23 u33).bind fun z43 =>
      bif (!z43) then
        (some false)
      else
        (laws_smKeeps_l1 x0 x1 K12 m y9 (w64 (y10 + 1))))
    else
      (K12 y9 y10)

def laws_smKeeps (x0 : Vm.Repo) (x1 : Vm.Repo) : Option (Bool) :=
  bif decide (((x0.Commits.length : Int) : Int) < ((x1.Commits.length : Int) : Int)) then
    (some false)
  else
    (jn (fun (y9 : Bool) (y10 : Int) =>
      some true) fun K12 =>
    laws_smKeeps_l1 x0 x1 K12 (((x1.Commits.length : Int) - 0).toNat + 1) false 0)

def laws_FnSendTake_l1 (z2 : Vm.Repo × (List Int) × (List Vm.Commit) × Str) (z19 : Vm.Repo × Bool) (K155 : Bool → Int → Option (Bool)) : Nat → Bool → Int → Option (Bool)
  | 0, _, _ => none
  | m + 1, y151, y152 =>
    bif decide ((y152 : Int) < ((z2.2.2.1.length : Int) : Int)) then
      ((gi z19.1.Commits (w64 ((z2.1.Commits.length : Int) + y152))).bind fun u168 =>
      jn (fun (y199 : Bool) =>
        bif y199 then
          (some false)
        else
          (laws_FnSendTake_l1 z2 z19 K155 m y151 (w64 (y152 + 1)))) fun K201 =>
      (gi z2.2.2.1 y152).bind fun u226 =>
      bif (u168.Who != u226.Who) then
        (K201 true)
      else
        ((gi z2.2.2.1 y152).bind fun u229 =>
        (Vm.laws_smTree u168.Tree u229.Tree).bind fun z235 =>
        bif (!z235) then
          (K201 true)
        else
          ((gi z2.2.2.1 y152).bind fun u251 =>
          K201 (((u168.Parents.length : Int) : Int) != ((u251.Parents.length : Int) : Int)))))
    else
      (K155 y151 y152)

def laws_FnSendTake (x0 : List Byte) : Option (Bool) :=
  bif decide ((1048576 : Int) < ((x0.length : Int) : Int)) then
    (some true)
  else
    ((Vm.spec_DrawSendTake x0).bind fun z2 =>
    (Vm.impl_SendTake (Vm.Repo.mk z2.1.Commits z2.1.Heads) z2.2.1 z2.2.2.1 z2.2.2.2).bind fun z19 =>
    (Vm.spec_SendTake (Vm.Repo.mk z2.1.Commits z2.1.Heads) z2.2.1 z2.2.2.1 z2.2.2.2).bind fun z46 =>
    jn (fun (y80 : Bool) =>
      bif y80 then
        (jn (fun (y94 : Bool) =>
          some y94) fun K96 =>
        bif (z19.2 == z46.2) then
          ((Vm.laws_smRepo (Vm.Repo.mk z19.1.Commits z19.1.Heads) z46.1).bind fun z110 =>
          K96 z110)
        else
          (K96 false))
      else
        (bif (!z19.2) then
          ((Vm.laws_smRepo (Vm.Repo.mk z19.1.Commits z19.1.Heads) (Vm.Repo.mk z2.1.Commits z2.1.Heads)).bind fun z124 =>
          some z124)
        else
          ((Vm.impl_RepoAt (Vm.Repo.mk z19.1.Commits z19.1.Heads) z2.2.2.2).bind fun z138 =>
          jn (fun (y151 : Bool) (y152 : Int) =>
            jn (fun (y257 : Bool) =>
              some y257) fun K259 =>
            (Vm.impl_RepoOk (Vm.Repo.mk z19.1.Commits z19.1.Heads)).bind fun z271 =>
            bif z271 then
              ((Vm.laws_smKeeps (Vm.Repo.mk z19.1.Commits z19.1.Heads) (Vm.Repo.mk z2.1.Commits z2.1.Heads)).bind fun z285 =>
              bif z285 then
                (bif (((z19.1.Commits.length : Int) : Int) == (w64 ((z2.1.Commits.length : Int) + (z2.2.2.1.length : Int)) : Int)) then
                  (bif decide ((0 : Int) < ((z2.2.2.1.length : Int) : Int)) then
                    (bif ((z138 : Int) == (w64 ((z19.1.Commits.length : Int) - 1) : Int)) then
                      (K259 true)
                    else
                      (bif (((z2.2.2.1.length : Int) : Int) == (0 : Int)) then
                        ((gi z2.2.1 0).bind fun u303 =>
                        K259 ((z138 : Int) == (u303 : Int)))
                      else
                        (K259 false)))
                  else
                    (bif (((z2.2.2.1.length : Int) : Int) == (0 : Int)) then
                      ((gi z2.2.1 0).bind fun u306 =>
                      K259 ((z138 : Int) == (u306 : Int)))
                    else
                      (K259 false)))
                else
                  (K259 false))
              else
                (K259 false))
            else
              (K259 false)) fun K155 =>
          laws_FnSendTake_l1 z2 z19 K155 (((z2.2.2.1.length : Int) - 0).toNat + 1) false 0))) fun K82 =>
    bif (z19.2 != z46.2) then
      (K82 true)
    else
      ((Vm.laws_smRepo (Vm.Repo.mk z19.1.Commits z19.1.Heads) z46.1).bind fun z311 =>
      bif (!z311) then
        (K82 true)
      else
        ((Vm.impl_RepoOk (Vm.Repo.mk z2.1.Commits z2.1.Heads)).bind fun z326 =>
        K82 (!z326))))

end Go.Vm
