/-
  DERIVED. GIVEN WITH THE SEED: THE CARDS: each row of YtkfeiopifiejgaaDoorRows.lean that lists a variable, with what it lists TIED to the program's text (the seventh form; the later family's looks); each row that meets fmt, with fmt's text TOLD by the authors' own Lean function (tested against real Go, not proved from fmt's source: count such statements apart). THE CARD IS WHAT COUNTS. Prove the row's statement (the work); the ties are given (YtkfeiopifiejgaaDoorTie.lean); close each card by the builder's one call (the guide's Derived/Test/ToyasCard.lean, 'card_holds'). Laid BY PROGRAM, IN A SANDBOX (cutbox-door.mjs). By AI agents, Wed Nov 11 2026. No macro, syntax, notation, axiom, sorry.
-/
import Derived.Test.YtkfeiopifiejgaaDoorRows
import GoSem.ClaimSeven
namespace Go.Proofs.YtkfeiopifiejgaaDoor
namespace Rows

/-- THE TIED CARD OF 'laws.FnExactRepoCommit'. -/
def fnExactRepoCommitCard : Claim7 := { stood := { row := fnExactRepoCommitRow, standIns := [], harness := (true, "70bfa4765de3250aaef7a1d2c177594633539718e965827f2ebc4d0a86375dae"), looks := true }, kinds := [], alts := [], laidByText := true, laidKinds := [.data, .pinned], laidTests := true, laidLooks := .later }
def FnExactRepoCommitCardSaid : Prop := Claim7.holds Tryd.pinned (.plain (OpenSpec.ofChange fnExactRepoCommitSpec)) fnExactRepoCommitCard

/-- THE TIED CARD OF 'laws.FnExactSendTake'. -/
def fnExactSendTakeCard : Claim7 := { stood := { row := fnExactSendTakeRow, standIns := [], harness := (true, "70bfa4765de3250aaef7a1d2c177594633539718e965827f2ebc4d0a86375dae"), looks := true }, kinds := [], alts := [], laidByText := true, laidKinds := [.data, .pinned], laidTests := true, laidLooks := .later }
def FnExactSendTakeCardSaid : Prop := Claim7.holds Tryd.pinned (.plain (OpenSpec.ofChange fnExactSendTakeSpec)) fnExactSendTakeCard

/-- THE TIED CARD OF 'laws.FnExactOpGet'. -/
def fnExactOpGetCard : Claim7 := { stood := { row := fnExactOpGetRow, standIns := [], harness := (true, "70bfa4765de3250aaef7a1d2c177594633539718e965827f2ebc4d0a86375dae"), looks := true }, kinds := [], alts := [], laidByText := true, laidKinds := [.data, .data, .data, .data, .sentinel, .sentinel, .pinned], laidTests := true, laidLooks := .later }
def FnExactOpGetCardSaid : Prop := Claim7.holds Tryd.pinned (.plain (OpenSpec.ofChange fnExactOpGetSpec)) fnExactOpGetCard

/-- THE TIED CARD OF 'laws.FnOpPut'. -/
def fnOpPutCard : Claim7 := { stood := { row := fnOpPutRow, standIns := [], harness := (true, "70bfa4765de3250aaef7a1d2c177594633539718e965827f2ebc4d0a86375dae"), looks := true }, kinds := [], alts := [], laidByText := true, laidKinds := [.data, .data, .data, .data, .sentinel, .sentinel, .pinned], laidTests := true, laidLooks := .later }
def FnOpPutCardSaid : Prop := Claim7.holds Tryd.pinned (.plain (OpenSpec.ofChange fnOpPutSpec)) fnOpPutCard

/-- THE TIED CARD OF 'laws.FnOpGet'. -/
def fnOpGetCard : Claim7 := { stood := { row := fnOpGetRow, standIns := [], harness := (true, "70bfa4765de3250aaef7a1d2c177594633539718e965827f2ebc4d0a86375dae"), looks := true }, kinds := [], alts := [], laidByText := true, laidKinds := [.data, .data, .data, .data, .sentinel, .sentinel, .pinned], laidTests := true, laidLooks := .later }
def FnOpGetCardSaid : Prop := Claim7.holds Tryd.pinned (.plain (OpenSpec.ofChange fnOpGetSpec)) fnOpGetCard

/-- THE SECOND FORM's CARD OF 'laws.FnExactRepoCommit'. -/
def fnExactRepoCommitUptoCard : Claim7 := { stood := { row := fnExactRepoCommitUptoRow, standIns := [], harness := (true, "70bfa4765de3250aaef7a1d2c177594633539718e965827f2ebc4d0a86375dae"), looks := true }, kinds := [], alts := [], laidByText := true, laidKinds := [.data, .pinned], laidTests := true, laidLooks := .later }
def FnExactRepoCommitUptoCardSaid : Prop := Claim7.holds Tryd.pinned (.plain (OpenSpec.upto fnExactRepoCommitSpec)) fnExactRepoCommitUptoCard

/-- THE SECOND FORM's CARD OF 'laws.FnExactSendTake'. -/
def fnExactSendTakeUptoCard : Claim7 := { stood := { row := fnExactSendTakeUptoRow, standIns := [], harness := (true, "70bfa4765de3250aaef7a1d2c177594633539718e965827f2ebc4d0a86375dae"), looks := true }, kinds := [], alts := [], laidByText := true, laidKinds := [.data, .pinned], laidTests := true, laidLooks := .later }
def FnExactSendTakeUptoCardSaid : Prop := Claim7.holds Tryd.pinned (.plain (OpenSpec.upto fnExactSendTakeSpec)) fnExactSendTakeUptoCard

/-- THE SECOND FORM's CARD OF 'laws.FnExactOpGet'. -/
def fnExactOpGetUptoCard : Claim7 := { stood := { row := fnExactOpGetUptoRow, standIns := [], harness := (true, "70bfa4765de3250aaef7a1d2c177594633539718e965827f2ebc4d0a86375dae"), looks := true }, kinds := [], alts := [], laidByText := true, laidKinds := [.data, .data, .data, .data, .sentinel, .sentinel, .pinned], laidTests := true, laidLooks := .later }
def FnExactOpGetUptoCardSaid : Prop := Claim7.holds Tryd.pinned (.plain (OpenSpec.upto fnExactOpGetSpec)) fnExactOpGetUptoCard

/-- THE SECOND FORM's CARD OF 'laws.FnOpPut'. -/
def fnOpPutUptoCard : Claim7 := { stood := { row := fnOpPutUptoRow, standIns := [], harness := (true, "70bfa4765de3250aaef7a1d2c177594633539718e965827f2ebc4d0a86375dae"), looks := true }, kinds := [], alts := [], laidByText := true, laidKinds := [.data, .data, .data, .data, .sentinel, .sentinel, .pinned], laidTests := true, laidLooks := .later }
def FnOpPutUptoCardSaid : Prop := Claim7.holds Tryd.pinned (.plain (OpenSpec.upto fnOpPutSpec)) fnOpPutUptoCard

/-- THE SECOND FORM's CARD OF 'laws.FnOpGet'. -/
def fnOpGetUptoCard : Claim7 := { stood := { row := fnOpGetUptoRow, standIns := [], harness := (true, "70bfa4765de3250aaef7a1d2c177594633539718e965827f2ebc4d0a86375dae"), looks := true }, kinds := [], alts := [], laidByText := true, laidKinds := [.data, .data, .data, .data, .sentinel, .sentinel, .pinned], laidTests := true, laidLooks := .later }
def FnOpGetUptoCardSaid : Prop := Claim7.holds Tryd.pinned (.plain (OpenSpec.upto fnOpGetSpec)) fnOpGetUptoCard
end Rows
end Go.Proofs.YtkfeiopifiejgaaDoor
