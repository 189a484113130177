/-
  DERIVED. GIVEN WITH THE SEED: THE CARDS: each row of YtnjcbcngjmkajaaGreatDoorRows.lean that lists a variable, with what it lists TIED to the program's text (the seventh form; the later family's looks); each row that meets fmt, with fmt's text TOLD by the authors' own Lean function (tested against real Go, not proved from fmt's source: count such statements apart). THE CARD IS WHAT COUNTS. Prove the row's statement (the work); the ties are given (YtnjcbcngjmkajaaGreatDoorTie.lean); close each card by the builder's one call (the guide's Derived/Test/ToyasCard.lean, 'card_holds'). Laid BY PROGRAM, IN A SANDBOX (cutbox-door.mjs). By AI agents, Wed Nov 11 2026. No macro, syntax, notation, axiom, sorry.
-/
import Derived.Test.YtnjcbcngjmkajaaGreatDoorRows
import GoSem.ClaimSeven
namespace Go.Proofs.YtnjcbcngjmkajaaGreatDoor
namespace Rows

/-- THE TIED CARD OF 'laws.FnKeepTexts'. -/
def fnKeepTextsCard : Claim7 := { stood := { row := fnKeepTextsRow, standIns := [], harness := (true, "5914e13d8b6e5ea91b21185294834a6772ced46c03f07b7ab37ff60c2ac7ea0e"), looks := false }, kinds := [], alts := [], laidByText := true, laidKinds := [.data, .pinned], laidTests := true, laidLooks := .later }
def FnKeepTextsCardSaid : Prop := Claim7.holds Tryz.pinned (.plain (OpenSpec.ofChange fnKeepTextsSpec)) fnKeepTextsCard

/-- THE TIED CARD OF 'laws.FnBlameWho'. -/
def fnBlameWhoCard : Claim7 := { stood := { row := fnBlameWhoRow, standIns := [], harness := (true, "5914e13d8b6e5ea91b21185294834a6772ced46c03f07b7ab37ff60c2ac7ea0e"), looks := false }, kinds := [], alts := [], laidByText := true, laidKinds := [.data, .pinned], laidTests := true, laidLooks := .later }
def FnBlameWhoCardSaid : Prop := Claim7.holds Tryz.pinned (.plain (OpenSpec.ofChange fnBlameWhoSpec)) fnBlameWhoCard

/-- THE SECOND FORM's CARD OF 'laws.FnKeepTexts'. -/
def fnKeepTextsUptoCard : Claim7 := { stood := { row := fnKeepTextsUptoRow, standIns := [], harness := (true, "5914e13d8b6e5ea91b21185294834a6772ced46c03f07b7ab37ff60c2ac7ea0e"), looks := false }, kinds := [], alts := [], laidByText := true, laidKinds := [.data, .pinned], laidTests := true, laidLooks := .later }
def FnKeepTextsUptoCardSaid : Prop := Claim7.holds Tryz.pinned (.plain (OpenSpec.upto fnKeepTextsSpec)) fnKeepTextsUptoCard

/-- THE SECOND FORM's CARD OF 'laws.FnBlameWho'. -/
def fnBlameWhoUptoCard : Claim7 := { stood := { row := fnBlameWhoUptoRow, standIns := [], harness := (true, "5914e13d8b6e5ea91b21185294834a6772ced46c03f07b7ab37ff60c2ac7ea0e"), looks := false }, kinds := [], alts := [], laidByText := true, laidKinds := [.data, .pinned], laidTests := true, laidLooks := .later }
def FnBlameWhoUptoCardSaid : Prop := Claim7.holds Tryz.pinned (.plain (OpenSpec.upto fnBlameWhoSpec)) fnBlameWhoUptoCard
end Rows
end Go.Proofs.YtnjcbcngjmkajaaGreatDoor
