/-
  DERIVED. GIVEN WITH THE SEED: THE CARDS: each row of YtokbhelngoeblaaGreatDoorRows.lean that lists a variable, with what it lists TIED to the program's text (the seventh form; the later family's looks); each row that meets fmt, with fmt's text TOLD by the authors' own Lean function (tested against real Go, not proved from fmt's source: count such statements apart). THE CARD IS WHAT COUNTS. Prove the row's statement (the work); the ties are given (YtokbhelngoeblaaGreatDoorTie.lean); close each card by the builder's one call (the guide's Derived/Test/ToyasCard.lean, 'card_holds'). Laid BY PROGRAM, IN A SANDBOX (cutbox-door.mjs). By AI agents, Wed Nov 11 2026. No macro, syntax, notation, axiom, sorry.
-/
import Derived.Test.YtokbhelngoeblaaGreatDoorRows
import GoSem.ClaimSeven
namespace Go.Proofs.YtokbhelngoeblaaGreatDoor
namespace Rows

/-- THE TIED CARD OF 'laws.FnExactPickOnto'. -/
def fnExactPickOntoCard : Claim7 := { stood := { row := fnExactPickOntoRow, standIns := [], harness := (true, "844debb1a3bc63756ab621725fe4b930467b716f7e3c91b18380c202fba77406"), looks := false }, kinds := [], alts := [], laidByText := true, laidKinds := [.data, .pinned], laidTests := true, laidLooks := .later }
def FnExactPickOntoCardSaid : Prop := Claim7.holds Tryz.pinned (.plain (OpenSpec.ofChange fnExactPickOntoSpec)) fnExactPickOntoCard

/-- THE TIED CARD OF 'laws.FnUniteTree'. -/
def fnUniteTreeCard : Claim7 := { stood := { row := fnUniteTreeRow, standIns := [], harness := (true, "844debb1a3bc63756ab621725fe4b930467b716f7e3c91b18380c202fba77406"), looks := false }, kinds := [], alts := [], laidByText := true, laidKinds := [.data, .pinned], laidTests := true, laidLooks := .later }
def FnUniteTreeCardSaid : Prop := Claim7.holds Tryz.pinned (.plain (OpenSpec.ofChange fnUniteTreeSpec)) fnUniteTreeCard

/-- THE TIED CARD OF 'laws.FnExactReviewNeed'. -/
def fnExactReviewNeedCard : Claim7 := { stood := { row := fnExactReviewNeedRow, standIns := [], harness := (true, "844debb1a3bc63756ab621725fe4b930467b716f7e3c91b18380c202fba77406"), looks := false }, kinds := [], alts := [], laidByText := true, laidKinds := [.data, .pinned], laidTests := true, laidLooks := .later }
def FnExactReviewNeedCardSaid : Prop := Claim7.holds Tryz.pinned (.plain (OpenSpec.ofChange fnExactReviewNeedSpec)) fnExactReviewNeedCard

/-- THE TIED CARD OF 'laws.FnExactReviewLand'. -/
def fnExactReviewLandCard : Claim7 := { stood := { row := fnExactReviewLandRow, standIns := [], harness := (true, "844debb1a3bc63756ab621725fe4b930467b716f7e3c91b18380c202fba77406"), looks := false }, kinds := [], alts := [], laidByText := true, laidKinds := [.data, .pinned], laidTests := true, laidLooks := .later }
def FnExactReviewLandCardSaid : Prop := Claim7.holds Tryz.pinned (.plain (OpenSpec.ofChange fnExactReviewLandSpec)) fnExactReviewLandCard

/-- THE TIED CARD OF 'laws.FnReviewFree'. -/
def fnReviewFreeCard : Claim7 := { stood := { row := fnReviewFreeRow, standIns := [], harness := (true, "844debb1a3bc63756ab621725fe4b930467b716f7e3c91b18380c202fba77406"), looks := false }, kinds := [], alts := [], laidByText := true, laidKinds := [.data, .pinned], laidTests := true, laidLooks := .later }
def FnReviewFreeCardSaid : Prop := Claim7.holds Tryz.pinned (.plain (OpenSpec.ofChange fnReviewFreeSpec)) fnReviewFreeCard

/-- THE TIED CARD OF 'laws.FnPickOf'. -/
def fnPickOfCard : Claim7 := { stood := { row := fnPickOfRow, standIns := [], harness := (true, "844debb1a3bc63756ab621725fe4b930467b716f7e3c91b18380c202fba77406"), looks := false }, kinds := [], alts := [], laidByText := true, laidKinds := [.data, .pinned], laidTests := true, laidLooks := .later }
def FnPickOfCardSaid : Prop := Claim7.holds Tryz.pinned (.plain (OpenSpec.ofChange fnPickOfSpec)) fnPickOfCard

/-- THE TIED CARD OF 'laws.FnPickBack'. -/
def fnPickBackCard : Claim7 := { stood := { row := fnPickBackRow, standIns := [], harness := (true, "844debb1a3bc63756ab621725fe4b930467b716f7e3c91b18380c202fba77406"), looks := false }, kinds := [], alts := [], laidByText := true, laidKinds := [.data, .pinned], laidTests := true, laidLooks := .later }
def FnPickBackCardSaid : Prop := Claim7.holds Tryz.pinned (.plain (OpenSpec.ofChange fnPickBackSpec)) fnPickBackCard

/-- THE TIED CARD OF 'laws.FnPickTwo'. -/
def fnPickTwoCard : Claim7 := { stood := { row := fnPickTwoRow, standIns := [], harness := (true, "844debb1a3bc63756ab621725fe4b930467b716f7e3c91b18380c202fba77406"), looks := false }, kinds := [], alts := [], laidByText := true, laidKinds := [.data, .pinned], laidTests := true, laidLooks := .later }
def FnPickTwoCardSaid : Prop := Claim7.holds Tryz.pinned (.plain (OpenSpec.ofChange fnPickTwoSpec)) fnPickTwoCard

/-- THE SECOND FORM's CARD OF 'laws.FnExactPickOnto'. -/
def fnExactPickOntoUptoCard : Claim7 := { stood := { row := fnExactPickOntoUptoRow, standIns := [], harness := (true, "844debb1a3bc63756ab621725fe4b930467b716f7e3c91b18380c202fba77406"), looks := false }, kinds := [], alts := [], laidByText := true, laidKinds := [.data, .pinned], laidTests := true, laidLooks := .later }
def FnExactPickOntoUptoCardSaid : Prop := Claim7.holds Tryz.pinned (.plain (OpenSpec.upto fnExactPickOntoSpec)) fnExactPickOntoUptoCard

/-- THE SECOND FORM's CARD OF 'laws.FnUniteTree'. -/
def fnUniteTreeUptoCard : Claim7 := { stood := { row := fnUniteTreeUptoRow, standIns := [], harness := (true, "844debb1a3bc63756ab621725fe4b930467b716f7e3c91b18380c202fba77406"), looks := false }, kinds := [], alts := [], laidByText := true, laidKinds := [.data, .pinned], laidTests := true, laidLooks := .later }
def FnUniteTreeUptoCardSaid : Prop := Claim7.holds Tryz.pinned (.plain (OpenSpec.upto fnUniteTreeSpec)) fnUniteTreeUptoCard

/-- THE SECOND FORM's CARD OF 'laws.FnExactReviewNeed'. -/
def fnExactReviewNeedUptoCard : Claim7 := { stood := { row := fnExactReviewNeedUptoRow, standIns := [], harness := (true, "844debb1a3bc63756ab621725fe4b930467b716f7e3c91b18380c202fba77406"), looks := false }, kinds := [], alts := [], laidByText := true, laidKinds := [.data, .pinned], laidTests := true, laidLooks := .later }
def FnExactReviewNeedUptoCardSaid : Prop := Claim7.holds Tryz.pinned (.plain (OpenSpec.upto fnExactReviewNeedSpec)) fnExactReviewNeedUptoCard

/-- THE SECOND FORM's CARD OF 'laws.FnExactReviewLand'. -/
def fnExactReviewLandUptoCard : Claim7 := { stood := { row := fnExactReviewLandUptoRow, standIns := [], harness := (true, "844debb1a3bc63756ab621725fe4b930467b716f7e3c91b18380c202fba77406"), looks := false }, kinds := [], alts := [], laidByText := true, laidKinds := [.data, .pinned], laidTests := true, laidLooks := .later }
def FnExactReviewLandUptoCardSaid : Prop := Claim7.holds Tryz.pinned (.plain (OpenSpec.upto fnExactReviewLandSpec)) fnExactReviewLandUptoCard

/-- THE SECOND FORM's CARD OF 'laws.FnReviewFree'. -/
def fnReviewFreeUptoCard : Claim7 := { stood := { row := fnReviewFreeUptoRow, standIns := [], harness := (true, "844debb1a3bc63756ab621725fe4b930467b716f7e3c91b18380c202fba77406"), looks := false }, kinds := [], alts := [], laidByText := true, laidKinds := [.data, .pinned], laidTests := true, laidLooks := .later }
def FnReviewFreeUptoCardSaid : Prop := Claim7.holds Tryz.pinned (.plain (OpenSpec.upto fnReviewFreeSpec)) fnReviewFreeUptoCard

/-- THE SECOND FORM's CARD OF 'laws.FnPickOf'. -/
def fnPickOfUptoCard : Claim7 := { stood := { row := fnPickOfUptoRow, standIns := [], harness := (true, "844debb1a3bc63756ab621725fe4b930467b716f7e3c91b18380c202fba77406"), looks := false }, kinds := [], alts := [], laidByText := true, laidKinds := [.data, .pinned], laidTests := true, laidLooks := .later }
def FnPickOfUptoCardSaid : Prop := Claim7.holds Tryz.pinned (.plain (OpenSpec.upto fnPickOfSpec)) fnPickOfUptoCard

/-- THE SECOND FORM's CARD OF 'laws.FnPickBack'. -/
def fnPickBackUptoCard : Claim7 := { stood := { row := fnPickBackUptoRow, standIns := [], harness := (true, "844debb1a3bc63756ab621725fe4b930467b716f7e3c91b18380c202fba77406"), looks := false }, kinds := [], alts := [], laidByText := true, laidKinds := [.data, .pinned], laidTests := true, laidLooks := .later }
def FnPickBackUptoCardSaid : Prop := Claim7.holds Tryz.pinned (.plain (OpenSpec.upto fnPickBackSpec)) fnPickBackUptoCard

/-- THE SECOND FORM's CARD OF 'laws.FnPickTwo'. -/
def fnPickTwoUptoCard : Claim7 := { stood := { row := fnPickTwoUptoRow, standIns := [], harness := (true, "844debb1a3bc63756ab621725fe4b930467b716f7e3c91b18380c202fba77406"), looks := false }, kinds := [], alts := [], laidByText := true, laidKinds := [.data, .pinned], laidTests := true, laidLooks := .later }
def FnPickTwoUptoCardSaid : Prop := Claim7.holds Tryz.pinned (.plain (OpenSpec.upto fnPickTwoSpec)) fnPickTwoUptoCard
end Rows
end Go.Proofs.YtokbhelngoeblaaGreatDoor
