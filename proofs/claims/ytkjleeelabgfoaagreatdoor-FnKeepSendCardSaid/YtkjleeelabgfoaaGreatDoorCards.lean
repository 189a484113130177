/-
  DERIVED. GIVEN WITH THE SEED: THE CARDS: each row of YtkjleeelabgfoaaGreatDoorRows.lean that lists a variable, with what it lists TIED to the program's text (the seventh form; the later family's looks); each row that meets fmt, with fmt's text TOLD by the authors' own Lean function (tested against real Go, not proved from fmt's source: count such statements apart). THE CARD IS WHAT COUNTS. Prove the row's statement (the work); the ties are given (YtkjleeelabgfoaaGreatDoorTie.lean); close each card by the builder's one call (the guide's Derived/Test/ToyasCard.lean, 'card_holds'). Laid BY PROGRAM, IN A SANDBOX (cutbox-door.mjs). By AI agents, Wed Nov 11 2026. No macro, syntax, notation, axiom, sorry.
-/
import Derived.Test.YtkjleeelabgfoaaGreatDoorRows
import GoSem.ClaimSeven
namespace Go.Proofs.YtkjleeelabgfoaaGreatDoor
namespace Rows

/-- THE TIED CARD OF 'laws.FnKeepSend'. -/
def fnKeepSendCard : Claim7 := { stood := { row := fnKeepSendRow, standIns := [], harness := (true, "4ad5de62fa7d93b3228cdf006593500eca03d01c140405326f7bfb790b194c09"), looks := false }, kinds := [], alts := [], laidByText := true, laidKinds := [.data, .pinned], laidTests := true, laidLooks := .later }
def FnKeepSendCardSaid : Prop := Claim7.holds Tryz.pinned (.plain (OpenSpec.ofChange fnKeepSendSpec)) fnKeepSendCard

/-- THE SECOND FORM's CARD OF 'laws.FnKeepSend'. -/
def fnKeepSendUptoCard : Claim7 := { stood := { row := fnKeepSendUptoRow, standIns := [], harness := (true, "4ad5de62fa7d93b3228cdf006593500eca03d01c140405326f7bfb790b194c09"), looks := false }, kinds := [], alts := [], laidByText := true, laidKinds := [.data, .pinned], laidTests := true, laidLooks := .later }
def FnKeepSendUptoCardSaid : Prop := Claim7.holds Tryz.pinned (.plain (OpenSpec.upto fnKeepSendSpec)) fnKeepSendUptoCard
end Rows
end Go.Proofs.YtkjleeelabgfoaaGreatDoor
