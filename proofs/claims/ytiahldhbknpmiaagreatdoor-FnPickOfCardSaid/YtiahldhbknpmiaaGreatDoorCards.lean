/-
  DERIVED. GIVEN WITH THE SEED: THE CARDS: each row of YtiahldhbknpmiaaGreatDoorRows.lean that lists a variable, with what it lists TIED to the program's text (the seventh form; the later family's looks); each row that meets fmt, with fmt's text TOLD by the authors' own Lean function (tested against real Go, not proved from fmt's source: count such statements apart). THE CARD IS WHAT COUNTS. Prove the row's statement (the work); the ties are given (YtiahldhbknpmiaaGreatDoorTie.lean); close each card by the builder's one call (the guide's Derived/Test/ToyasCard.lean, 'card_holds'). Laid BY PROGRAM, IN A SANDBOX (cutbox-door.mjs). By AI agents, Wed Nov 11 2026. No macro, syntax, notation, axiom, sorry.
-/
import Derived.Test.YtiahldhbknpmiaaGreatDoorRows
import GoSem.ClaimSeven
namespace Go.Proofs.YtiahldhbknpmiaaGreatDoor
namespace Rows

/-- THE TIED CARD OF 'laws.FnExactPickBack'. -/
def fnExactPickBackCard : Claim7 := { stood := { row := fnExactPickBackRow, standIns := [], harness := (true, "58c3a7b9bac206f990bb6dfdd3af8348727686129f1b5ac04ac1462185883960"), looks := false }, kinds := [], alts := [], laidByText := true, laidKinds := [.data, .pinned], laidTests := true, laidLooks := .later }
def FnExactPickBackCardSaid : Prop := Claim7.holds Tryz.pinned (.plain (OpenSpec.ofChange fnExactPickBackSpec)) fnExactPickBackCard

/-- THE TIED CARD OF 'laws.FnExactPickOf'. -/
def fnExactPickOfCard : Claim7 := { stood := { row := fnExactPickOfRow, standIns := [], harness := (true, "58c3a7b9bac206f990bb6dfdd3af8348727686129f1b5ac04ac1462185883960"), looks := false }, kinds := [], alts := [], laidByText := true, laidKinds := [.data, .pinned], laidTests := true, laidLooks := .later }
def FnExactPickOfCardSaid : Prop := Claim7.holds Tryz.pinned (.plain (OpenSpec.ofChange fnExactPickOfSpec)) fnExactPickOfCard

/-- THE TIED CARD OF 'laws.FnExactUniteInto'. -/
def fnExactUniteIntoCard : Claim7 := { stood := { row := fnExactUniteIntoRow, standIns := [], harness := (true, "58c3a7b9bac206f990bb6dfdd3af8348727686129f1b5ac04ac1462185883960"), looks := false }, kinds := [], alts := [], laidByText := true, laidKinds := [.data, .pinned], laidTests := true, laidLooks := .later }
def FnExactUniteIntoCardSaid : Prop := Claim7.holds Tryz.pinned (.plain (OpenSpec.ofChange fnExactUniteIntoSpec)) fnExactUniteIntoCard

/-- THE TIED CARD OF 'laws.FnExactPickOnto'. -/
def fnExactPickOntoCard : Claim7 := { stood := { row := fnExactPickOntoRow, standIns := [], harness := (true, "58c3a7b9bac206f990bb6dfdd3af8348727686129f1b5ac04ac1462185883960"), looks := false }, kinds := [], alts := [], laidByText := true, laidKinds := [.data, .pinned], laidTests := true, laidLooks := .later }
def FnExactPickOntoCardSaid : Prop := Claim7.holds Tryz.pinned (.plain (OpenSpec.ofChange fnExactPickOntoSpec)) fnExactPickOntoCard

/-- THE TIED CARD OF 'laws.FnExactReviewNeed'. -/
def fnExactReviewNeedCard : Claim7 := { stood := { row := fnExactReviewNeedRow, standIns := [], harness := (true, "58c3a7b9bac206f990bb6dfdd3af8348727686129f1b5ac04ac1462185883960"), looks := false }, kinds := [], alts := [], laidByText := true, laidKinds := [.data, .pinned], laidTests := true, laidLooks := .later }
def FnExactReviewNeedCardSaid : Prop := Claim7.holds Tryz.pinned (.plain (OpenSpec.ofChange fnExactReviewNeedSpec)) fnExactReviewNeedCard

/-- THE TIED CARD OF 'laws.FnPickBack'. -/
def fnPickBackCard : Claim7 := { stood := { row := fnPickBackRow, standIns := [], harness := (true, "58c3a7b9bac206f990bb6dfdd3af8348727686129f1b5ac04ac1462185883960"), looks := false }, kinds := [], alts := [], laidByText := true, laidKinds := [.data, .pinned], laidTests := true, laidLooks := .later }
def FnPickBackCardSaid : Prop := Claim7.holds Tryz.pinned (.plain (OpenSpec.ofChange fnPickBackSpec)) fnPickBackCard

/-- THE TIED CARD OF 'laws.FnPickOf'. -/
def fnPickOfCard : Claim7 := { stood := { row := fnPickOfRow, standIns := [], harness := (true, "58c3a7b9bac206f990bb6dfdd3af8348727686129f1b5ac04ac1462185883960"), looks := false }, kinds := [], alts := [], laidByText := true, laidKinds := [.data, .pinned], laidTests := true, laidLooks := .later }
def FnPickOfCardSaid : Prop := Claim7.holds Tryz.pinned (.plain (OpenSpec.ofChange fnPickOfSpec)) fnPickOfCard

/-- THE TIED CARD OF 'laws.FnPickTwo'. -/
def fnPickTwoCard : Claim7 := { stood := { row := fnPickTwoRow, standIns := [], harness := (true, "58c3a7b9bac206f990bb6dfdd3af8348727686129f1b5ac04ac1462185883960"), looks := false }, kinds := [], alts := [], laidByText := true, laidKinds := [.data, .pinned], laidTests := true, laidLooks := .later }
def FnPickTwoCardSaid : Prop := Claim7.holds Tryz.pinned (.plain (OpenSpec.ofChange fnPickTwoSpec)) fnPickTwoCard

/-- THE TIED CARD OF 'laws.FnUniteTree'. -/
def fnUniteTreeCard : Claim7 := { stood := { row := fnUniteTreeRow, standIns := [], harness := (true, "58c3a7b9bac206f990bb6dfdd3af8348727686129f1b5ac04ac1462185883960"), looks := false }, kinds := [], alts := [], laidByText := true, laidKinds := [.data, .pinned], laidTests := true, laidLooks := .later }
def FnUniteTreeCardSaid : Prop := Claim7.holds Tryz.pinned (.plain (OpenSpec.ofChange fnUniteTreeSpec)) fnUniteTreeCard

/-- THE TIED CARD OF 'laws.FnLogLeft'. -/
def fnLogLeftCard : Claim7 := { stood := { row := fnLogLeftRow, standIns := [], harness := (true, "58c3a7b9bac206f990bb6dfdd3af8348727686129f1b5ac04ac1462185883960"), looks := false }, kinds := [], alts := [], laidByText := true, laidKinds := [.data, .pinned], laidTests := true, laidLooks := .later }
def FnLogLeftCardSaid : Prop := Claim7.holds Tryz.pinned (.plain (OpenSpec.ofChange fnLogLeftSpec)) fnLogLeftCard

/-- THE TIED CARD OF 'laws.FnLogNext'. -/
def fnLogNextCard : Claim7 := { stood := { row := fnLogNextRow, standIns := [], harness := (true, "58c3a7b9bac206f990bb6dfdd3af8348727686129f1b5ac04ac1462185883960"), looks := false }, kinds := [], alts := [], laidByText := true, laidKinds := [.data, .pinned], laidTests := true, laidLooks := .later }
def FnLogNextCardSaid : Prop := Claim7.holds Tryz.pinned (.plain (OpenSpec.ofChange fnLogNextSpec)) fnLogNextCard

/-- THE TIED CARD OF 'laws.FnLogWho'. -/
def fnLogWhoCard : Claim7 := { stood := { row := fnLogWhoRow, standIns := [], harness := (true, "58c3a7b9bac206f990bb6dfdd3af8348727686129f1b5ac04ac1462185883960"), looks := false }, kinds := [], alts := [], laidByText := true, laidKinds := [.data, .pinned], laidTests := true, laidLooks := .later }
def FnLogWhoCardSaid : Prop := Claim7.holds Tryz.pinned (.plain (OpenSpec.ofChange fnLogWhoSpec)) fnLogWhoCard

/-- THE SECOND FORM's CARD OF 'laws.FnExactPickBack'. -/
def fnExactPickBackUptoCard : Claim7 := { stood := { row := fnExactPickBackUptoRow, standIns := [], harness := (true, "58c3a7b9bac206f990bb6dfdd3af8348727686129f1b5ac04ac1462185883960"), looks := false }, kinds := [], alts := [], laidByText := true, laidKinds := [.data, .pinned], laidTests := true, laidLooks := .later }
def FnExactPickBackUptoCardSaid : Prop := Claim7.holds Tryz.pinned (.plain (OpenSpec.upto fnExactPickBackSpec)) fnExactPickBackUptoCard

/-- THE SECOND FORM's CARD OF 'laws.FnExactPickOf'. -/
def fnExactPickOfUptoCard : Claim7 := { stood := { row := fnExactPickOfUptoRow, standIns := [], harness := (true, "58c3a7b9bac206f990bb6dfdd3af8348727686129f1b5ac04ac1462185883960"), looks := false }, kinds := [], alts := [], laidByText := true, laidKinds := [.data, .pinned], laidTests := true, laidLooks := .later }
def FnExactPickOfUptoCardSaid : Prop := Claim7.holds Tryz.pinned (.plain (OpenSpec.upto fnExactPickOfSpec)) fnExactPickOfUptoCard

/-- THE SECOND FORM's CARD OF 'laws.FnExactUniteInto'. -/
def fnExactUniteIntoUptoCard : Claim7 := { stood := { row := fnExactUniteIntoUptoRow, standIns := [], harness := (true, "58c3a7b9bac206f990bb6dfdd3af8348727686129f1b5ac04ac1462185883960"), looks := false }, kinds := [], alts := [], laidByText := true, laidKinds := [.data, .pinned], laidTests := true, laidLooks := .later }
def FnExactUniteIntoUptoCardSaid : Prop := Claim7.holds Tryz.pinned (.plain (OpenSpec.upto fnExactUniteIntoSpec)) fnExactUniteIntoUptoCard

/-- THE SECOND FORM's CARD OF 'laws.FnExactPickOnto'. -/
def fnExactPickOntoUptoCard : Claim7 := { stood := { row := fnExactPickOntoUptoRow, standIns := [], harness := (true, "58c3a7b9bac206f990bb6dfdd3af8348727686129f1b5ac04ac1462185883960"), looks := false }, kinds := [], alts := [], laidByText := true, laidKinds := [.data, .pinned], laidTests := true, laidLooks := .later }
def FnExactPickOntoUptoCardSaid : Prop := Claim7.holds Tryz.pinned (.plain (OpenSpec.upto fnExactPickOntoSpec)) fnExactPickOntoUptoCard

/-- THE SECOND FORM's CARD OF 'laws.FnExactReviewNeed'. -/
def fnExactReviewNeedUptoCard : Claim7 := { stood := { row := fnExactReviewNeedUptoRow, standIns := [], harness := (true, "58c3a7b9bac206f990bb6dfdd3af8348727686129f1b5ac04ac1462185883960"), looks := false }, kinds := [], alts := [], laidByText := true, laidKinds := [.data, .pinned], laidTests := true, laidLooks := .later }
def FnExactReviewNeedUptoCardSaid : Prop := Claim7.holds Tryz.pinned (.plain (OpenSpec.upto fnExactReviewNeedSpec)) fnExactReviewNeedUptoCard

/-- THE SECOND FORM's CARD OF 'laws.FnPickBack'. -/
def fnPickBackUptoCard : Claim7 := { stood := { row := fnPickBackUptoRow, standIns := [], harness := (true, "58c3a7b9bac206f990bb6dfdd3af8348727686129f1b5ac04ac1462185883960"), looks := false }, kinds := [], alts := [], laidByText := true, laidKinds := [.data, .pinned], laidTests := true, laidLooks := .later }
def FnPickBackUptoCardSaid : Prop := Claim7.holds Tryz.pinned (.plain (OpenSpec.upto fnPickBackSpec)) fnPickBackUptoCard

/-- THE SECOND FORM's CARD OF 'laws.FnPickOf'. -/
def fnPickOfUptoCard : Claim7 := { stood := { row := fnPickOfUptoRow, standIns := [], harness := (true, "58c3a7b9bac206f990bb6dfdd3af8348727686129f1b5ac04ac1462185883960"), looks := false }, kinds := [], alts := [], laidByText := true, laidKinds := [.data, .pinned], laidTests := true, laidLooks := .later }
def FnPickOfUptoCardSaid : Prop := Claim7.holds Tryz.pinned (.plain (OpenSpec.upto fnPickOfSpec)) fnPickOfUptoCard

/-- THE SECOND FORM's CARD OF 'laws.FnPickTwo'. -/
def fnPickTwoUptoCard : Claim7 := { stood := { row := fnPickTwoUptoRow, standIns := [], harness := (true, "58c3a7b9bac206f990bb6dfdd3af8348727686129f1b5ac04ac1462185883960"), looks := false }, kinds := [], alts := [], laidByText := true, laidKinds := [.data, .pinned], laidTests := true, laidLooks := .later }
def FnPickTwoUptoCardSaid : Prop := Claim7.holds Tryz.pinned (.plain (OpenSpec.upto fnPickTwoSpec)) fnPickTwoUptoCard

/-- THE SECOND FORM's CARD OF 'laws.FnUniteTree'. -/
def fnUniteTreeUptoCard : Claim7 := { stood := { row := fnUniteTreeUptoRow, standIns := [], harness := (true, "58c3a7b9bac206f990bb6dfdd3af8348727686129f1b5ac04ac1462185883960"), looks := false }, kinds := [], alts := [], laidByText := true, laidKinds := [.data, .pinned], laidTests := true, laidLooks := .later }
def FnUniteTreeUptoCardSaid : Prop := Claim7.holds Tryz.pinned (.plain (OpenSpec.upto fnUniteTreeSpec)) fnUniteTreeUptoCard

/-- THE SECOND FORM's CARD OF 'laws.FnLogLeft'. -/
def fnLogLeftUptoCard : Claim7 := { stood := { row := fnLogLeftUptoRow, standIns := [], harness := (true, "58c3a7b9bac206f990bb6dfdd3af8348727686129f1b5ac04ac1462185883960"), looks := false }, kinds := [], alts := [], laidByText := true, laidKinds := [.data, .pinned], laidTests := true, laidLooks := .later }
def FnLogLeftUptoCardSaid : Prop := Claim7.holds Tryz.pinned (.plain (OpenSpec.upto fnLogLeftSpec)) fnLogLeftUptoCard

/-- THE SECOND FORM's CARD OF 'laws.FnLogNext'. -/
def fnLogNextUptoCard : Claim7 := { stood := { row := fnLogNextUptoRow, standIns := [], harness := (true, "58c3a7b9bac206f990bb6dfdd3af8348727686129f1b5ac04ac1462185883960"), looks := false }, kinds := [], alts := [], laidByText := true, laidKinds := [.data, .pinned], laidTests := true, laidLooks := .later }
def FnLogNextUptoCardSaid : Prop := Claim7.holds Tryz.pinned (.plain (OpenSpec.upto fnLogNextSpec)) fnLogNextUptoCard

/-- THE SECOND FORM's CARD OF 'laws.FnLogWho'. -/
def fnLogWhoUptoCard : Claim7 := { stood := { row := fnLogWhoUptoRow, standIns := [], harness := (true, "58c3a7b9bac206f990bb6dfdd3af8348727686129f1b5ac04ac1462185883960"), looks := false }, kinds := [], alts := [], laidByText := true, laidKinds := [.data, .pinned], laidTests := true, laidLooks := .later }
def FnLogWhoUptoCardSaid : Prop := Claim7.holds Tryz.pinned (.plain (OpenSpec.upto fnLogWhoSpec)) fnLogWhoUptoCard
end Rows
end Go.Proofs.YtiahldhbknpmiaaGreatDoor
