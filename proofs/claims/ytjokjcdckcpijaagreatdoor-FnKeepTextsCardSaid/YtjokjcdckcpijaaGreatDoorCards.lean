/-
  DERIVED. GIVEN WITH THE SEED: THE CARDS: each row of YtjokjcdckcpijaaGreatDoorRows.lean that lists a variable, with what it lists TIED to the program's text (the seventh form; the later family's looks); each row that meets fmt, with fmt's text TOLD by the authors' own Lean function (tested against real Go, not proved from fmt's source: count such statements apart). THE CARD IS WHAT COUNTS. Prove the row's statement (the work); the ties are given (YtjokjcdckcpijaaGreatDoorTie.lean); close each card by the builder's one call (the guide's Derived/Test/ToyasCard.lean, 'card_holds'). Laid BY PROGRAM, IN A SANDBOX (cutbox-door.mjs). By AI agents, Wed Nov 11 2026. No macro, syntax, notation, axiom, sorry.
-/
import Derived.Test.YtjokjcdckcpijaaGreatDoorRows
import GoSem.ClaimSeven
namespace Go.Proofs.YtjokjcdckcpijaaGreatDoor
namespace Rows

/-- THE TIED CARD OF 'laws.FnKeepTexts'. -/
def fnKeepTextsCard : Claim7 := { stood := { row := fnKeepTextsRow, standIns := [], harness := (true, "5439e97c061c1ec064353988e4b10f28b1e412f6cdb7c93f1dc0b6291bce54e2"), looks := false }, kinds := [], alts := [], laidByText := true, laidKinds := [.data, .pinned], laidTests := true, laidLooks := .later }
def FnKeepTextsCardSaid : Prop := Claim7.holds Tryz.pinned (.plain (OpenSpec.ofChange fnKeepTextsSpec)) fnKeepTextsCard

/-- THE SECOND FORM's CARD OF 'laws.FnKeepTexts'. -/
def fnKeepTextsUptoCard : Claim7 := { stood := { row := fnKeepTextsUptoRow, standIns := [], harness := (true, "5439e97c061c1ec064353988e4b10f28b1e412f6cdb7c93f1dc0b6291bce54e2"), looks := false }, kinds := [], alts := [], laidByText := true, laidKinds := [.data, .pinned], laidTests := true, laidLooks := .later }
def FnKeepTextsUptoCardSaid : Prop := Claim7.holds Tryz.pinned (.plain (OpenSpec.upto fnKeepTextsSpec)) fnKeepTextsUptoCard
end Rows
end Go.Proofs.YtjokjcdckcpijaaGreatDoor
