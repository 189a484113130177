/-
  DERIVED. GIVEN WITH THE SEED: THE CARDS: each row of YtpijdodljeieaaaGreatDoorRows.lean that lists a variable, with what it lists TIED to the program's text (the seventh form; the later family's looks); each row that meets fmt, with fmt's text TOLD by the authors' own Lean function (tested against real Go, not proved from fmt's source: count such statements apart). THE CARD IS WHAT COUNTS. Prove the row's statement (the work); the ties are given (YtpijdodljeieaaaGreatDoorTie.lean); close each card by the builder's one call (the guide's Derived/Test/ToyasCard.lean, 'card_holds'). Laid BY PROGRAM, IN A SANDBOX (cutbox-door.mjs). By AI agents, Wed Nov 11 2026. No macro, syntax, notation, axiom, sorry.
-/
import Derived.Test.YtpijdodljeieaaaGreatDoorRows
import GoSem.ClaimSeven
namespace Go.Proofs.YtpijdodljeieaaaGreatDoor
namespace Rows

/-- THE TIED CARD OF 'laws.FnBlameLine'. -/
def fnBlameLineCard : Claim7 := { stood := { row := fnBlameLineRow, standIns := [], harness := (true, "78c79ee6093c9c707b56a38daa70a605f4d81f58eeb6ecfca4b3500cccf27ec3"), looks := false }, kinds := [], alts := [], laidByText := true, laidKinds := [.data, .pinned], laidTests := true, laidLooks := .later }
def FnBlameLineCardSaid : Prop := Claim7.holds Tryz.pinned (.plain (OpenSpec.ofChange fnBlameLineSpec)) fnBlameLineCard

/-- THE TIED CARD OF 'laws.FnBlameLog'. -/
def fnBlameLogCard : Claim7 := { stood := { row := fnBlameLogRow, standIns := [], harness := (true, "78c79ee6093c9c707b56a38daa70a605f4d81f58eeb6ecfca4b3500cccf27ec3"), looks := false }, kinds := [], alts := [], laidByText := true, laidKinds := [.data, .pinned], laidTests := true, laidLooks := .later }
def FnBlameLogCardSaid : Prop := Claim7.holds Tryz.pinned (.plain (OpenSpec.ofChange fnBlameLogSpec)) fnBlameLogCard

/-- THE TIED CARD OF 'laws.FnBlameOf'. -/
def fnBlameOfCard : Claim7 := { stood := { row := fnBlameOfRow, standIns := [], harness := (true, "78c79ee6093c9c707b56a38daa70a605f4d81f58eeb6ecfca4b3500cccf27ec3"), looks := false }, kinds := [], alts := [], laidByText := true, laidKinds := [.data, .pinned], laidTests := true, laidLooks := .later }
def FnBlameOfCardSaid : Prop := Claim7.holds Tryz.pinned (.plain (OpenSpec.ofChange fnBlameOfSpec)) fnBlameOfCard

/-- THE TIED CARD OF 'laws.FnRepoCommit'. -/
def fnRepoCommitCard : Claim7 := { stood := { row := fnRepoCommitRow, standIns := [], harness := (true, "78c79ee6093c9c707b56a38daa70a605f4d81f58eeb6ecfca4b3500cccf27ec3"), looks := false }, kinds := [], alts := [], laidByText := true, laidKinds := [.data, .pinned], laidTests := true, laidLooks := .later }
def FnRepoCommitCardSaid : Prop := Claim7.holds Tryz.pinned (.plain (OpenSpec.ofChange fnRepoCommitSpec)) fnRepoCommitCard

/-- THE TIED CARD OF 'laws.FnKeepOnly'. -/
def fnKeepOnlyCard : Claim7 := { stood := { row := fnKeepOnlyRow, standIns := [], harness := (true, "78c79ee6093c9c707b56a38daa70a605f4d81f58eeb6ecfca4b3500cccf27ec3"), looks := false }, kinds := [], alts := [], laidByText := true, laidKinds := [.data, .pinned], laidTests := true, laidLooks := .later }
def FnKeepOnlyCardSaid : Prop := Claim7.holds Tryz.pinned (.plain (OpenSpec.ofChange fnKeepOnlySpec)) fnKeepOnlyCard

/-- THE TIED CARD OF 'laws.FnLogPath'. -/
def fnLogPathCard : Claim7 := { stood := { row := fnLogPathRow, standIns := [], harness := (true, "78c79ee6093c9c707b56a38daa70a605f4d81f58eeb6ecfca4b3500cccf27ec3"), looks := false }, kinds := [], alts := [], laidByText := true, laidKinds := [.data, .pinned], laidTests := true, laidLooks := .later }
def FnLogPathCardSaid : Prop := Claim7.holds Tryz.pinned (.plain (OpenSpec.ofChange fnLogPathSpec)) fnLogPathCard

/-- THE TIED CARD OF 'laws.FnRepoBranch'. -/
def fnRepoBranchCard : Claim7 := { stood := { row := fnRepoBranchRow, standIns := [], harness := (true, "78c79ee6093c9c707b56a38daa70a605f4d81f58eeb6ecfca4b3500cccf27ec3"), looks := false }, kinds := [], alts := [], laidByText := true, laidKinds := [.data, .pinned], laidTests := true, laidLooks := .later }
def FnRepoBranchCardSaid : Prop := Claim7.holds Tryz.pinned (.plain (OpenSpec.ofChange fnRepoBranchSpec)) fnRepoBranchCard

/-- THE TIED CARD OF 'laws.FnRepoDrop'. -/
def fnRepoDropCard : Claim7 := { stood := { row := fnRepoDropRow, standIns := [], harness := (true, "78c79ee6093c9c707b56a38daa70a605f4d81f58eeb6ecfca4b3500cccf27ec3"), looks := false }, kinds := [], alts := [], laidByText := true, laidKinds := [.data, .pinned], laidTests := true, laidLooks := .later }
def FnRepoDropCardSaid : Prop := Claim7.holds Tryz.pinned (.plain (OpenSpec.ofChange fnRepoDropSpec)) fnRepoDropCard

/-- THE TIED CARD OF 'laws.FnSendOf'. -/
def fnSendOfCard : Claim7 := { stood := { row := fnSendOfRow, standIns := [], harness := (true, "78c79ee6093c9c707b56a38daa70a605f4d81f58eeb6ecfca4b3500cccf27ec3"), looks := false }, kinds := [], alts := [], laidByText := true, laidKinds := [.data, .pinned], laidTests := true, laidLooks := .later }
def FnSendOfCardSaid : Prop := Claim7.holds Tryz.pinned (.plain (OpenSpec.ofChange fnSendOfSpec)) fnSendOfCard

/-- THE TIED CARD OF 'laws.FnSendTake'. -/
def fnSendTakeCard : Claim7 := { stood := { row := fnSendTakeRow, standIns := [], harness := (true, "78c79ee6093c9c707b56a38daa70a605f4d81f58eeb6ecfca4b3500cccf27ec3"), looks := false }, kinds := [], alts := [], laidByText := true, laidKinds := [.data, .pinned], laidTests := true, laidLooks := .later }
def FnSendTakeCardSaid : Prop := Claim7.holds Tryz.pinned (.plain (OpenSpec.ofChange fnSendTakeSpec)) fnSendTakeCard

/-- THE TIED CARD OF 'laws.FnSendWay'. -/
def fnSendWayCard : Claim7 := { stood := { row := fnSendWayRow, standIns := [], harness := (true, "78c79ee6093c9c707b56a38daa70a605f4d81f58eeb6ecfca4b3500cccf27ec3"), looks := false }, kinds := [], alts := [], laidByText := true, laidKinds := [.data, .pinned], laidTests := true, laidLooks := .later }
def FnSendWayCardSaid : Prop := Claim7.holds Tryz.pinned (.plain (OpenSpec.ofChange fnSendWaySpec)) fnSendWayCard

/-- THE TIED CARD OF 'laws.FnKeepSend'. -/
def fnKeepSendCard : Claim7 := { stood := { row := fnKeepSendRow, standIns := [], harness := (true, "78c79ee6093c9c707b56a38daa70a605f4d81f58eeb6ecfca4b3500cccf27ec3"), looks := false }, kinds := [], alts := [], laidByText := true, laidKinds := [.data, .pinned], laidTests := true, laidLooks := .later }
def FnKeepSendCardSaid : Prop := Claim7.holds Tryz.pinned (.plain (OpenSpec.ofChange fnKeepSendSpec)) fnKeepSendCard

/-- THE SECOND FORM's CARD OF 'laws.FnBlameLine'. -/
def fnBlameLineUptoCard : Claim7 := { stood := { row := fnBlameLineUptoRow, standIns := [], harness := (true, "78c79ee6093c9c707b56a38daa70a605f4d81f58eeb6ecfca4b3500cccf27ec3"), looks := false }, kinds := [], alts := [], laidByText := true, laidKinds := [.data, .pinned], laidTests := true, laidLooks := .later }
def FnBlameLineUptoCardSaid : Prop := Claim7.holds Tryz.pinned (.plain (OpenSpec.upto fnBlameLineSpec)) fnBlameLineUptoCard

/-- THE SECOND FORM's CARD OF 'laws.FnBlameLog'. -/
def fnBlameLogUptoCard : Claim7 := { stood := { row := fnBlameLogUptoRow, standIns := [], harness := (true, "78c79ee6093c9c707b56a38daa70a605f4d81f58eeb6ecfca4b3500cccf27ec3"), looks := false }, kinds := [], alts := [], laidByText := true, laidKinds := [.data, .pinned], laidTests := true, laidLooks := .later }
def FnBlameLogUptoCardSaid : Prop := Claim7.holds Tryz.pinned (.plain (OpenSpec.upto fnBlameLogSpec)) fnBlameLogUptoCard

/-- THE SECOND FORM's CARD OF 'laws.FnBlameOf'. -/
def fnBlameOfUptoCard : Claim7 := { stood := { row := fnBlameOfUptoRow, standIns := [], harness := (true, "78c79ee6093c9c707b56a38daa70a605f4d81f58eeb6ecfca4b3500cccf27ec3"), looks := false }, kinds := [], alts := [], laidByText := true, laidKinds := [.data, .pinned], laidTests := true, laidLooks := .later }
def FnBlameOfUptoCardSaid : Prop := Claim7.holds Tryz.pinned (.plain (OpenSpec.upto fnBlameOfSpec)) fnBlameOfUptoCard

/-- THE SECOND FORM's CARD OF 'laws.FnRepoCommit'. -/
def fnRepoCommitUptoCard : Claim7 := { stood := { row := fnRepoCommitUptoRow, standIns := [], harness := (true, "78c79ee6093c9c707b56a38daa70a605f4d81f58eeb6ecfca4b3500cccf27ec3"), looks := false }, kinds := [], alts := [], laidByText := true, laidKinds := [.data, .pinned], laidTests := true, laidLooks := .later }
def FnRepoCommitUptoCardSaid : Prop := Claim7.holds Tryz.pinned (.plain (OpenSpec.upto fnRepoCommitSpec)) fnRepoCommitUptoCard

/-- THE SECOND FORM's CARD OF 'laws.FnKeepOnly'. -/
def fnKeepOnlyUptoCard : Claim7 := { stood := { row := fnKeepOnlyUptoRow, standIns := [], harness := (true, "78c79ee6093c9c707b56a38daa70a605f4d81f58eeb6ecfca4b3500cccf27ec3"), looks := false }, kinds := [], alts := [], laidByText := true, laidKinds := [.data, .pinned], laidTests := true, laidLooks := .later }
def FnKeepOnlyUptoCardSaid : Prop := Claim7.holds Tryz.pinned (.plain (OpenSpec.upto fnKeepOnlySpec)) fnKeepOnlyUptoCard

/-- THE SECOND FORM's CARD OF 'laws.FnLogPath'. -/
def fnLogPathUptoCard : Claim7 := { stood := { row := fnLogPathUptoRow, standIns := [], harness := (true, "78c79ee6093c9c707b56a38daa70a605f4d81f58eeb6ecfca4b3500cccf27ec3"), looks := false }, kinds := [], alts := [], laidByText := true, laidKinds := [.data, .pinned], laidTests := true, laidLooks := .later }
def FnLogPathUptoCardSaid : Prop := Claim7.holds Tryz.pinned (.plain (OpenSpec.upto fnLogPathSpec)) fnLogPathUptoCard

/-- THE SECOND FORM's CARD OF 'laws.FnRepoBranch'. -/
def fnRepoBranchUptoCard : Claim7 := { stood := { row := fnRepoBranchUptoRow, standIns := [], harness := (true, "78c79ee6093c9c707b56a38daa70a605f4d81f58eeb6ecfca4b3500cccf27ec3"), looks := false }, kinds := [], alts := [], laidByText := true, laidKinds := [.data, .pinned], laidTests := true, laidLooks := .later }
def FnRepoBranchUptoCardSaid : Prop := Claim7.holds Tryz.pinned (.plain (OpenSpec.upto fnRepoBranchSpec)) fnRepoBranchUptoCard

/-- THE SECOND FORM's CARD OF 'laws.FnRepoDrop'. -/
def fnRepoDropUptoCard : Claim7 := { stood := { row := fnRepoDropUptoRow, standIns := [], harness := (true, "78c79ee6093c9c707b56a38daa70a605f4d81f58eeb6ecfca4b3500cccf27ec3"), looks := false }, kinds := [], alts := [], laidByText := true, laidKinds := [.data, .pinned], laidTests := true, laidLooks := .later }
def FnRepoDropUptoCardSaid : Prop := Claim7.holds Tryz.pinned (.plain (OpenSpec.upto fnRepoDropSpec)) fnRepoDropUptoCard

/-- THE SECOND FORM's CARD OF 'laws.FnSendOf'. -/
def fnSendOfUptoCard : Claim7 := { stood := { row := fnSendOfUptoRow, standIns := [], harness := (true, "78c79ee6093c9c707b56a38daa70a605f4d81f58eeb6ecfca4b3500cccf27ec3"), looks := false }, kinds := [], alts := [], laidByText := true, laidKinds := [.data, .pinned], laidTests := true, laidLooks := .later }
def FnSendOfUptoCardSaid : Prop := Claim7.holds Tryz.pinned (.plain (OpenSpec.upto fnSendOfSpec)) fnSendOfUptoCard

/-- THE SECOND FORM's CARD OF 'laws.FnSendTake'. -/
def fnSendTakeUptoCard : Claim7 := { stood := { row := fnSendTakeUptoRow, standIns := [], harness := (true, "78c79ee6093c9c707b56a38daa70a605f4d81f58eeb6ecfca4b3500cccf27ec3"), looks := false }, kinds := [], alts := [], laidByText := true, laidKinds := [.data, .pinned], laidTests := true, laidLooks := .later }
def FnSendTakeUptoCardSaid : Prop := Claim7.holds Tryz.pinned (.plain (OpenSpec.upto fnSendTakeSpec)) fnSendTakeUptoCard

/-- THE SECOND FORM's CARD OF 'laws.FnSendWay'. -/
def fnSendWayUptoCard : Claim7 := { stood := { row := fnSendWayUptoRow, standIns := [], harness := (true, "78c79ee6093c9c707b56a38daa70a605f4d81f58eeb6ecfca4b3500cccf27ec3"), looks := false }, kinds := [], alts := [], laidByText := true, laidKinds := [.data, .pinned], laidTests := true, laidLooks := .later }
def FnSendWayUptoCardSaid : Prop := Claim7.holds Tryz.pinned (.plain (OpenSpec.upto fnSendWaySpec)) fnSendWayUptoCard

/-- THE SECOND FORM's CARD OF 'laws.FnKeepSend'. -/
def fnKeepSendUptoCard : Claim7 := { stood := { row := fnKeepSendUptoRow, standIns := [], harness := (true, "78c79ee6093c9c707b56a38daa70a605f4d81f58eeb6ecfca4b3500cccf27ec3"), looks := false }, kinds := [], alts := [], laidByText := true, laidKinds := [.data, .pinned], laidTests := true, laidLooks := .later }
def FnKeepSendUptoCardSaid : Prop := Claim7.holds Tryz.pinned (.plain (OpenSpec.upto fnKeepSendSpec)) fnKeepSendUptoCard
end Rows
end Go.Proofs.YtpijdodljeieaaaGreatDoor
