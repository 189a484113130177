/-
  DERIVED. GIVEN WITH THE SEED: THE CARDS: each row of YtifbmanldeabeaaGreatDoorRows.lean that lists a variable, with what it lists TIED to the program's text (the seventh form; the later family's looks); each row that meets fmt, with fmt's text TOLD by the authors' own Lean function (tested against real Go, not proved from fmt's source: count such statements apart). THE CARD IS WHAT COUNTS. Prove the row's statement (the work); the ties are given (YtifbmanldeabeaaGreatDoorTie.lean); close each card by the builder's one call (the guide's Derived/Test/ToyasCard.lean, 'card_holds'). Laid BY PROGRAM, IN A SANDBOX (cutbox-door.mjs). By AI agents, Wed Nov 11 2026. No macro, syntax, notation, axiom, sorry.
-/
import Derived.Test.YtifbmanldeabeaaGreatDoorRows
import GoSem.ClaimSeven
namespace Go.Proofs.YtifbmanldeabeaaGreatDoor
namespace Rows

/-- THE TIED CARD OF 'laws.FnExactReviewLand'. -/
def fnExactReviewLandCard : Claim7 := { stood := { row := fnExactReviewLandRow, standIns := [], harness := (true, "5ba9e9757b276a6fed08e2611fe32ff9fa22243980922957102819bc04ee89cb"), looks := false }, kinds := [], alts := [], laidByText := true, laidKinds := [.data, .pinned], laidTests := true, laidLooks := .later }
def FnExactReviewLandCardSaid : Prop := Claim7.holds Tryz.pinned (.plain (OpenSpec.ofChange fnExactReviewLandSpec)) fnExactReviewLandCard

/-- THE TIED CARD OF 'laws.FnBlameWho'. -/
def fnBlameWhoCard : Claim7 := { stood := { row := fnBlameWhoRow, standIns := [], harness := (true, "5ba9e9757b276a6fed08e2611fe32ff9fa22243980922957102819bc04ee89cb"), looks := false }, kinds := [], alts := [], laidByText := true, laidKinds := [.data, .pinned], laidTests := true, laidLooks := .later }
def FnBlameWhoCardSaid : Prop := Claim7.holds Tryz.pinned (.plain (OpenSpec.ofChange fnBlameWhoSpec)) fnBlameWhoCard

/-- THE TIED CARD OF 'laws.FnReviewFree'. -/
def fnReviewFreeCard : Claim7 := { stood := { row := fnReviewFreeRow, standIns := [], harness := (true, "5ba9e9757b276a6fed08e2611fe32ff9fa22243980922957102819bc04ee89cb"), looks := false }, kinds := [], alts := [], laidByText := true, laidKinds := [.data, .pinned], laidTests := true, laidLooks := .later }
def FnReviewFreeCardSaid : Prop := Claim7.holds Tryz.pinned (.plain (OpenSpec.ofChange fnReviewFreeSpec)) fnReviewFreeCard

/-- THE SECOND FORM's CARD OF 'laws.FnExactReviewLand'. -/
def fnExactReviewLandUptoCard : Claim7 := { stood := { row := fnExactReviewLandUptoRow, standIns := [], harness := (true, "5ba9e9757b276a6fed08e2611fe32ff9fa22243980922957102819bc04ee89cb"), looks := false }, kinds := [], alts := [], laidByText := true, laidKinds := [.data, .pinned], laidTests := true, laidLooks := .later }
def FnExactReviewLandUptoCardSaid : Prop := Claim7.holds Tryz.pinned (.plain (OpenSpec.upto fnExactReviewLandSpec)) fnExactReviewLandUptoCard

/-- THE SECOND FORM's CARD OF 'laws.FnBlameWho'. -/
def fnBlameWhoUptoCard : Claim7 := { stood := { row := fnBlameWhoUptoRow, standIns := [], harness := (true, "5ba9e9757b276a6fed08e2611fe32ff9fa22243980922957102819bc04ee89cb"), looks := false }, kinds := [], alts := [], laidByText := true, laidKinds := [.data, .pinned], laidTests := true, laidLooks := .later }
def FnBlameWhoUptoCardSaid : Prop := Claim7.holds Tryz.pinned (.plain (OpenSpec.upto fnBlameWhoSpec)) fnBlameWhoUptoCard

/-- THE SECOND FORM's CARD OF 'laws.FnReviewFree'. -/
def fnReviewFreeUptoCard : Claim7 := { stood := { row := fnReviewFreeUptoRow, standIns := [], harness := (true, "5ba9e9757b276a6fed08e2611fe32ff9fa22243980922957102819bc04ee89cb"), looks := false }, kinds := [], alts := [], laidByText := true, laidKinds := [.data, .pinned], laidTests := true, laidLooks := .later }
def FnReviewFreeUptoCardSaid : Prop := Claim7.holds Tryz.pinned (.plain (OpenSpec.upto fnReviewFreeSpec)) fnReviewFreeUptoCard
end Rows
end Go.Proofs.YtifbmanldeabeaaGreatDoor
