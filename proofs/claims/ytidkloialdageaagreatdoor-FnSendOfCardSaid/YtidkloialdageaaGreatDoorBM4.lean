/- Models of the functions: plain Lean, printed by a program of ours. Conditions: none. -/
import Derived.Test.YtidkloialdageaaGreatDoorBLw
import Derived.Test.YtidkloialdageaaGreatDoorBM0
import Derived.Test.YtidkloialdageaaGreatDoorBM1
import Derived.Test.YtidkloialdageaaGreatDoorBM2
namespace Go.Vm
open Go Go.Sx
set_option linter.unusedVariables false
set_option linter.unusedSimpArgs false

def spec_l30Some_l1 (x0 : Vm.l30Rd) (x1 : Vm.Repo) (K22 : List Int → Int → Int → Option ((List Int) × Int)) : Nat → List Int → Int → Int → Option ((List Int) × Int)
  | 0, _, _, _ => none
  | m + 1, y15, y18, y19 =>
    bif decide ((0 : Int) < (y18 : Int)) then
      ((Vm.spec_l30Rd_pick (Vm.l30Rd.mk x0.b y19) (x1.Commits.length : Int)).bind fun z29 =>
      (apM y15 [z29.1]).bind fun q40 =>
      spec_l30Some_l1 x0 x1 K22 m q40 (w64 (y18 - 1)) z29.2)
    else
      (K22 y15 y18 y19)

def spec_l30Some (x0 : Vm.l30Rd) (x1 : Vm.Repo) : Option ((List Int) × Int) :=
  (Vm.spec_l30Rd_pick x0 4).bind fun z9 =>
  jn (fun (y15 : List Int) (y18 : Int) (y19 : Int) =>
    (Vm.spec_l30Rd_pick (Vm.l30Rd.mk x0.b y19) 14).bind fun z48 =>
    bif ((z48.1 : Int) == (0 : Int)) then
      ((apM y15 [(-1)]).bind fun q60 =>
      some (q60, z48.2))
    else
      (some (y15, z48.2))) fun K22 =>
  spec_l30Some_l1 x0 x1 K22 ((z9.1 - 0).toNat + 1) ([] : List Int) z9.1 z9.2

def spec_DrawSendOf (x0 : List Byte) : Option (Vm.Repo × (List Int) × Int) :=
  (Vm.spec_l30Open x0).bind fun z4 =>
  (Vm.spec_l30AnyRepo z4).bind fun z10 =>
  (Vm.spec_l30At (Vm.l30Rd.mk z4.b z10.2) (Vm.Repo.mk z10.1.Commits z10.1.Heads)).bind fun z28 =>
  jn (fun (y36 : Bool) (y37 : List Byte) (y40 : Int) =>
    bif y36 then
      ((Vm.spec_l30Rd_pick (Vm.l30Rd.mk y37 y40) (z10.1.Commits.length : Int)).bind fun z58 =>
      (Vm.spec_l8All (Vm.Repo.mk z10.1.Commits z10.1.Heads) z58.1).bind fun z66 =>
      some (Vm.Repo.mk z10.1.Commits z10.1.Heads, z66, z28.1))
    else
      ((Vm.spec_l30Some (Vm.l30Rd.mk y37 y40) (Vm.Repo.mk z10.1.Commits z10.1.Heads)).bind fun z111 =>
      some (Vm.Repo.mk z10.1.Commits z10.1.Heads, z111.1, z28.1))) fun K43 =>
  (Vm.spec_l1In z28.1 0 (w64 ((z10.1.Commits.length : Int) - 1))).bind fun z147 =>
  bif z147 then
    ((Vm.spec_l7Ok (Vm.Repo.mk z10.1.Commits z10.1.Heads)).bind fun z157 =>
    bif z157 then
      ((Vm.spec_l30Rd_pick (Vm.l30Rd.mk z4.b z28.2) 3).bind fun z168 =>
      K43 (decide ((0 : Int) < (z168.1 : Int))) z4.b z168.2)
    else
      (K43 false z4.b z28.2))
  else
    (K43 false z4.b z28.2)

def impl_SendMany (x0 : Vm.Repo) (x1 : List Int) (x2 : Int) : Option (Int) :=
  (Vm.impl_Repo_areSuspect x0 x1 x2).bind fun z7 =>
  bif (!z7) then
    (some (-1))
  else
    ((Vm.impl_Repo_since x0 x2 x1).bind fun z16 =>
    some (z16.length : Int))

def spec_SendMany (x0 : Vm.Repo) (x1 : List Int) (x2 : Int) : Option (Int) :=
  jn (fun (y3 : Bool) =>
    bif y3 then
      (some (-1))
    else
      ((Vm.spec_l15New x0 x1 x2).bind fun z12 =>
      some (z12.length : Int))) fun K5 =>
  (Vm.spec_l7Ok x0).bind fun z19 =>
  bif (!z19) then
    (K5 true)
  else
    ((Vm.spec_l12Any x0 x1).bind fun z28 =>
    bif (!z28) then
      (K5 true)
    else
      ((Vm.spec_l1In x2 0 (w64 ((x0.Commits.length : Int) - 1))).bind fun z35 =>
      K5 (!z35)))

def impl_LogLeft (x0 : Vm.Repo) (x1 : List Int) (x2 : Int) : Option ((List Int)) :=
  (Vm.impl_Repo_areSuspect x0 x1 x2).bind fun z7 =>
  bif (!z7) then
    (some ([] : List Int))
  else
    ((Vm.impl_Repo_since x0 x2 x1).bind fun z16 =>
    some z16)

def laws_FnSendOf_l2 (z2 : Vm.Repo × (List Int) × Int) (z17 : (List Vm.Commit) × Bool) (z87 : (List Int)) (y98 : Int) (u125 : Vm.Commit) (K169 : Bool → Int → Option (Bool)) : Nat → Bool → Int → Option (Bool)
  | 0, _, _ => none
  | m + 1, y165, y166 =>
    bif decide ((y166 : Int) < ((u125.Parents.length : Int) : Int)) then
      ((gi z17.1 y98).bind fun u182 =>
      (gi u182.Parents y166).bind fun u187 =>
      jn (fun (y189 : Bool) =>
        bif y189 then
          (some false)
        else
          (laws_FnSendOf_l2 z2 z17 z87 y98 u125 K169 m y165 (w64 (y166 + 1)))) fun K191 =>
      bif decide ((y98 : Int) ≤ (u187 : Int)) then
        (K191 true)
      else
        (bif decide ((0 : Int) ≤ (u187 : Int)) then
          ((gi z87 u187).bind fun u214 =>
          (gi u125.Parents y166).bind fun u216 =>
          bif ((u214 : Int) != (u216 : Int)) then
            (K191 true)
          else
            (bif decide ((u187 : Int) < (0 : Int)) then
              ((gi z2.2.1 (w64 ((-1) - u187))).bind fun u221 =>
              (gi u125.Parents y166).bind fun u223 =>
              K191 ((u221 : Int) != (u223 : Int)))
            else
              (K191 false)))
        else
          (bif decide ((u187 : Int) < (0 : Int)) then
            ((gi z2.2.1 (w64 ((-1) - u187))).bind fun u226 =>
            (gi u125.Parents y166).bind fun u228 =>
            K191 ((u226 : Int) != (u228 : Int)))
          else
            (K191 false))))
    else
      (K169 y165 y166)

def laws_FnSendOf_l1 (z2 : Vm.Repo × (List Int) × Int) (z17 : (List Vm.Commit) × Bool) (z25 : (List Vm.Commit) × Bool) (z87 : (List Int)) (K103 : Bool → Int → Option (Bool)) : Nat → Bool → Int → Option (Bool)
  | 0, _, _ => none
  | m + 1, y97, y98 =>
    bif decide ((y98 : Int) < ((z17.1.length : Int) : Int)) then
      ((gi z87 y98).bind fun u123 =>
      (gi z2.1.Commits u123).bind fun u125 =>
      jn (fun (y152 : Bool) =>
        bif y152 then
          (some false)
        else
          (jn (fun (y165 : Bool) (y166 : Int) =>
            laws_FnSendOf_l1 z2 z17 z25 z87 K103 m y165 (w64 (y98 + 1))) fun K169 =>
          laws_FnSendOf_l2 z2 z17 z87 y98 u125 K169 (((u125.Parents.length : Int) - 0).toNat + 1) y97 0)) fun K154 =>
      (gi z17.1 y98).bind fun u241 =>
      (gi z25.1 y98).bind fun u250 =>
      (Vm.laws_smCommit u241 u250).bind fun z259 =>
      bif (!z259) then
        (K154 true)
      else
        ((gi z17.1 y98).bind fun u272 =>
        bif (u272.Who != u125.Who) then
          (K154 true)
        else
          ((gi z17.1 y98).bind fun u275 =>
          (Vm.laws_smTree u275.Tree u125.Tree).bind fun z282 =>
          bif (!z282) then
            (K154 true)
          else
            ((gi z17.1 y98).bind fun u295 =>
            K154 (((u295.Parents.length : Int) : Int) != ((u125.Parents.length : Int) : Int))))))
    else
      (K103 y97 y98)

def laws_FnSendOf (x0 : List Byte) : Option (Bool) :=
  bif decide ((1048576 : Int) < ((x0.length : Int) : Int)) then
    (some true)
  else
    ((Vm.spec_DrawSendOf x0).bind fun z2 =>
    (Vm.impl_SendOf (Vm.Repo.mk z2.1.Commits z2.1.Heads) z2.2.1 z2.2.2).bind fun z17 =>
    (Vm.spec_SendOf (Vm.Repo.mk z2.1.Commits z2.1.Heads) z2.2.1 z2.2.2).bind fun z25 =>
    jn (fun (y34 : Bool) =>
      bif y34 then
        (jn (fun (y45 : Bool) =>
          some y45) fun K47 =>
        bif (z17.2 == z25.2) then
          (bif (((z17.1.length : Int) : Int) == ((z25.1.length : Int) : Int)) then
            ((Vm.impl_SendMany (Vm.Repo.mk z2.1.Commits z2.1.Heads) z2.2.1 z2.2.2).bind fun z66 =>
            (Vm.spec_SendMany (Vm.Repo.mk z2.1.Commits z2.1.Heads) z2.2.1 z2.2.2).bind fun z76 =>
            K47 ((z66 : Int) == (z76 : Int)))
          else
            (K47 false))
        else
          (K47 false))
      else
        ((Vm.impl_LogLeft (Vm.Repo.mk z2.1.Commits z2.1.Heads) z2.2.1 z2.2.2).bind fun z87 =>
        jn (fun (y97 : Bool) (y98 : Int) =>
          jn (fun (y302 : Bool) =>
            some y302) fun K304 =>
          bif (((z17.1.length : Int) : Int) == ((z87.length : Int) : Int)) then
            ((Vm.impl_SendMany (Vm.Repo.mk z2.1.Commits z2.1.Heads) z2.2.1 z2.2.2).bind fun z315 =>
            K304 (((z17.1.length : Int) : Int) == (z315 : Int)))
          else
            (K304 false)) fun K103 =>
        laws_FnSendOf_l1 z2 z17 z25 z87 K103 (((z17.1.length : Int) - 0).toNat + 1) false 0)) fun K36 =>
    bif (z17.2 != z25.2) then
      (K36 true)
    else
      (bif (((z17.1.length : Int) : Int) != ((z25.1.length : Int) : Int)) then
        (K36 true)
      else
        ((Vm.impl_SendMany (Vm.Repo.mk z2.1.Commits z2.1.Heads) z2.2.1 z2.2.2).bind fun z337 =>
        (Vm.spec_SendMany (Vm.Repo.mk z2.1.Commits z2.1.Heads) z2.2.1 z2.2.2).bind fun z347 =>
        bif ((z337 : Int) != (z347 : Int)) then
          (K36 true)
        else
          (K36 (!z17.2)))))

end Go.Vm
