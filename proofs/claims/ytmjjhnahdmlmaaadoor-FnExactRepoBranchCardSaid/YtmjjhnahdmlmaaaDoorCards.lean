/-
  DERIVED. GIVEN WITH THE SEED: THE CARDS: each row of YtmjjhnahdmlmaaaDoorRows.lean that lists a variable, with what it lists TIED to the program's text (the seventh form; the later family's looks); each row that meets fmt, with fmt's text TOLD by the authors' own Lean function (tested against real Go, not proved from fmt's source: count such statements apart). THE CARD IS WHAT COUNTS. Prove the row's statement (the work); the ties are given (YtmjjhnahdmlmaaaDoorTie.lean); close each card by the builder's one call (the guide's Derived/Test/ToyasCard.lean, 'card_holds'). Laid BY PROGRAM, IN A SANDBOX (cutbox-door.mjs). By AI agents, Wed Nov 11 2026. No macro, syntax, notation, axiom, sorry.
-/
import Derived.Test.YtmjjhnahdmlmaaaDoorRows
import GoSem.ClaimSeven
namespace Go.Proofs.YtmjjhnahdmlmaaaDoor
namespace Rows

/-- THE TIED CARD OF 'laws.FnExactOpPut'. -/
def fnExactOpPutCard : Claim7 := { stood := { row := fnExactOpPutRow, standIns := [], harness := (true, "f9f55703ef47a5a6392f739f50af77531acdf35b7b673606e26d6d55aaadf647"), looks := true }, kinds := [], alts := [], laidByText := true, laidKinds := [.data, .data, .data, .data, .pinned], laidTests := true, laidLooks := .later }
def FnExactOpPutCardSaid : Prop := Claim7.holds Tryd.pinned (.plain (OpenSpec.ofChange fnExactOpPutSpec)) fnExactOpPutCard

/-- THE TIED CARD OF 'laws.FnExactRepoDrop'. -/
def fnExactRepoDropCard : Claim7 := { stood := { row := fnExactRepoDropRow, standIns := [], harness := (true, "f9f55703ef47a5a6392f739f50af77531acdf35b7b673606e26d6d55aaadf647"), looks := true }, kinds := [], alts := [], laidByText := true, laidKinds := [.data, .pinned], laidTests := true, laidLooks := .later }
def FnExactRepoDropCardSaid : Prop := Claim7.holds Tryd.pinned (.plain (OpenSpec.ofChange fnExactRepoDropSpec)) fnExactRepoDropCard

/-- THE TIED CARD OF 'laws.FnExactRepoBranch'. -/
def fnExactRepoBranchCard : Claim7 := { stood := { row := fnExactRepoBranchRow, standIns := [], harness := (true, "f9f55703ef47a5a6392f739f50af77531acdf35b7b673606e26d6d55aaadf647"), looks := true }, kinds := [], alts := [], laidByText := true, laidKinds := [.data, .pinned], laidTests := true, laidLooks := .later }
def FnExactRepoBranchCardSaid : Prop := Claim7.holds Tryd.pinned (.plain (OpenSpec.ofChange fnExactRepoBranchSpec)) fnExactRepoBranchCard

/-- THE TIED CARD OF 'laws.FnExactRepoCommit'. -/
def fnExactRepoCommitCard : Claim7 := { stood := { row := fnExactRepoCommitRow, standIns := [], harness := (true, "f9f55703ef47a5a6392f739f50af77531acdf35b7b673606e26d6d55aaadf647"), looks := true }, kinds := [], alts := [], laidByText := true, laidKinds := [.data, .pinned], laidTests := true, laidLooks := .later }
def FnExactRepoCommitCardSaid : Prop := Claim7.holds Tryd.pinned (.plain (OpenSpec.ofChange fnExactRepoCommitSpec)) fnExactRepoCommitCard

/-- THE TIED CARD OF 'laws.FnRepoAt'. -/
def fnRepoAtCard : Claim7 := { stood := { row := fnRepoAtRow, standIns := [], harness := (true, "f9f55703ef47a5a6392f739f50af77531acdf35b7b673606e26d6d55aaadf647"), looks := true }, kinds := [], alts := [], laidByText := true, laidKinds := [.data, .pinned], laidTests := true, laidLooks := .later }
def FnRepoAtCardSaid : Prop := Claim7.holds Tryd.pinned (.plain (OpenSpec.ofChange fnRepoAtSpec)) fnRepoAtCard

/-- THE TIED CARD OF 'laws.FnExactSendTake'. -/
def fnExactSendTakeCard : Claim7 := { stood := { row := fnExactSendTakeRow, standIns := [], harness := (true, "f9f55703ef47a5a6392f739f50af77531acdf35b7b673606e26d6d55aaadf647"), looks := true }, kinds := [], alts := [], laidByText := true, laidKinds := [.data, .pinned], laidTests := true, laidLooks := .later }
def FnExactSendTakeCardSaid : Prop := Claim7.holds Tryd.pinned (.plain (OpenSpec.ofChange fnExactSendTakeSpec)) fnExactSendTakeCard

/-- THE TIED CARD OF 'laws.FnExactOpGet'. -/
def fnExactOpGetCard : Claim7 := { stood := { row := fnExactOpGetRow, standIns := [], harness := (true, "f9f55703ef47a5a6392f739f50af77531acdf35b7b673606e26d6d55aaadf647"), looks := true }, kinds := [], alts := [], laidByText := true, laidKinds := [.data, .data, .data, .data, .sentinel, .sentinel, .pinned], laidTests := true, laidLooks := .later }
def FnExactOpGetCardSaid : Prop := Claim7.holds Tryd.pinned (.plain (OpenSpec.ofChange fnExactOpGetSpec)) fnExactOpGetCard

/-- THE SECOND FORM's CARD OF 'laws.FnExactOpPut'. -/
def fnExactOpPutUptoCard : Claim7 := { stood := { row := fnExactOpPutUptoRow, standIns := [], harness := (true, "f9f55703ef47a5a6392f739f50af77531acdf35b7b673606e26d6d55aaadf647"), looks := true }, kinds := [], alts := [], laidByText := true, laidKinds := [.data, .data, .data, .data, .pinned], laidTests := true, laidLooks := .later }
def FnExactOpPutUptoCardSaid : Prop := Claim7.holds Tryd.pinned (.plain (OpenSpec.upto fnExactOpPutSpec)) fnExactOpPutUptoCard

/-- THE SECOND FORM's CARD OF 'laws.FnExactRepoDrop'. -/
def fnExactRepoDropUptoCard : Claim7 := { stood := { row := fnExactRepoDropUptoRow, standIns := [], harness := (true, "f9f55703ef47a5a6392f739f50af77531acdf35b7b673606e26d6d55aaadf647"), looks := true }, kinds := [], alts := [], laidByText := true, laidKinds := [.data, .pinned], laidTests := true, laidLooks := .later }
def FnExactRepoDropUptoCardSaid : Prop := Claim7.holds Tryd.pinned (.plain (OpenSpec.upto fnExactRepoDropSpec)) fnExactRepoDropUptoCard

/-- THE SECOND FORM's CARD OF 'laws.FnExactRepoBranch'. -/
def fnExactRepoBranchUptoCard : Claim7 := { stood := { row := fnExactRepoBranchUptoRow, standIns := [], harness := (true, "f9f55703ef47a5a6392f739f50af77531acdf35b7b673606e26d6d55aaadf647"), looks := true }, kinds := [], alts := [], laidByText := true, laidKinds := [.data, .pinned], laidTests := true, laidLooks := .later }
def FnExactRepoBranchUptoCardSaid : Prop := Claim7.holds Tryd.pinned (.plain (OpenSpec.upto fnExactRepoBranchSpec)) fnExactRepoBranchUptoCard

/-- THE SECOND FORM's CARD OF 'laws.FnExactRepoCommit'. -/
def fnExactRepoCommitUptoCard : Claim7 := { stood := { row := fnExactRepoCommitUptoRow, standIns := [], harness := (true, "f9f55703ef47a5a6392f739f50af77531acdf35b7b673606e26d6d55aaadf647"), looks := true }, kinds := [], alts := [], laidByText := true, laidKinds := [.data, .pinned], laidTests := true, laidLooks := .later }
def FnExactRepoCommitUptoCardSaid : Prop := Claim7.holds Tryd.pinned (.plain (OpenSpec.upto fnExactRepoCommitSpec)) fnExactRepoCommitUptoCard

/-- THE SECOND FORM's CARD OF 'laws.FnRepoAt'. -/
def fnRepoAtUptoCard : Claim7 := { stood := { row := fnRepoAtUptoRow, standIns := [], harness := (true, "f9f55703ef47a5a6392f739f50af77531acdf35b7b673606e26d6d55aaadf647"), looks := true }, kinds := [], alts := [], laidByText := true, laidKinds := [.data, .pinned], laidTests := true, laidLooks := .later }
def FnRepoAtUptoCardSaid : Prop := Claim7.holds Tryd.pinned (.plain (OpenSpec.upto fnRepoAtSpec)) fnRepoAtUptoCard

/-- THE SECOND FORM's CARD OF 'laws.FnExactSendTake'. -/
def fnExactSendTakeUptoCard : Claim7 := { stood := { row := fnExactSendTakeUptoRow, standIns := [], harness := (true, "f9f55703ef47a5a6392f739f50af77531acdf35b7b673606e26d6d55aaadf647"), looks := true }, kinds := [], alts := [], laidByText := true, laidKinds := [.data, .pinned], laidTests := true, laidLooks := .later }
def FnExactSendTakeUptoCardSaid : Prop := Claim7.holds Tryd.pinned (.plain (OpenSpec.upto fnExactSendTakeSpec)) fnExactSendTakeUptoCard

/-- THE SECOND FORM's CARD OF 'laws.FnExactOpGet'. -/
def fnExactOpGetUptoCard : Claim7 := { stood := { row := fnExactOpGetUptoRow, standIns := [], harness := (true, "f9f55703ef47a5a6392f739f50af77531acdf35b7b673606e26d6d55aaadf647"), looks := true }, kinds := [], alts := [], laidByText := true, laidKinds := [.data, .data, .data, .data, .sentinel, .sentinel, .pinned], laidTests := true, laidLooks := .later }
def FnExactOpGetUptoCardSaid : Prop := Claim7.holds Tryd.pinned (.plain (OpenSpec.upto fnExactOpGetSpec)) fnExactOpGetUptoCard
end Rows
end Go.Proofs.YtmjjhnahdmlmaaaDoor
