/-
  DERIVED. GIVEN WITH THE SEED: THE CARDS: each row of YtmjjhnahdmlmaaaGreatDoorRows.lean that lists a variable, with what it lists TIED to the program's text (the seventh form; the later family's looks); each row that meets fmt, with fmt's text TOLD by the authors' own Lean function (tested against real Go, not proved from fmt's source: count such statements apart). THE CARD IS WHAT COUNTS. Prove the row's statement (the work); the ties are given (YtmjjhnahdmlmaaaGreatDoorTie.lean); close each card by the builder's one call (the guide's Derived/Test/ToyasCard.lean, 'card_holds'). Laid BY PROGRAM, IN A SANDBOX (cutbox-door.mjs). By AI agents, Wed Nov 11 2026. No macro, syntax, notation, axiom, sorry.
-/
import Derived.Test.YtmjjhnahdmlmaaaGreatDoorRows
import GoSem.ClaimSeven
namespace Go.Proofs.YtmjjhnahdmlmaaaGreatDoor
namespace Rows

/-- THE TIED CARD OF 'laws.FnRepoTree'. -/
def fnRepoTreeCard : Claim7 := { stood := { row := fnRepoTreeRow, standIns := [], harness := (true, "cb60101b0a57ccc6bc487304dc4135e8c5d13615c754936674c995819a16f07c"), looks := false }, kinds := [], alts := [], laidByText := true, laidKinds := [.data, .pinned], laidTests := true, laidLooks := .later }
def FnRepoTreeCardSaid : Prop := Claim7.holds Tryz.pinned (.plain (OpenSpec.ofChange fnRepoTreeSpec)) fnRepoTreeCard

/-- THE TIED CARD OF 'laws.FnAncIs'. -/
def fnAncIsCard : Claim7 := { stood := { row := fnAncIsRow, standIns := [], harness := (true, "cb60101b0a57ccc6bc487304dc4135e8c5d13615c754936674c995819a16f07c"), looks := false }, kinds := [], alts := [], laidByText := true, laidKinds := [.data, .pinned], laidTests := true, laidLooks := .later }
def FnAncIsCardSaid : Prop := Claim7.holds Tryz.pinned (.plain (OpenSpec.ofChange fnAncIsSpec)) fnAncIsCard

/-- THE TIED CARD OF 'laws.FnAncLine'. -/
def fnAncLineCard : Claim7 := { stood := { row := fnAncLineRow, standIns := [], harness := (true, "cb60101b0a57ccc6bc487304dc4135e8c5d13615c754936674c995819a16f07c"), looks := false }, kinds := [], alts := [], laidByText := true, laidKinds := [.data, .pinned], laidTests := true, laidLooks := .later }
def FnAncLineCardSaid : Prop := Claim7.holds Tryz.pinned (.plain (OpenSpec.ofChange fnAncLineSpec)) fnAncLineCard

/-- THE TIED CARD OF 'laws.FnAncAll'. -/
def fnAncAllCard : Claim7 := { stood := { row := fnAncAllRow, standIns := [], harness := (true, "cb60101b0a57ccc6bc487304dc4135e8c5d13615c754936674c995819a16f07c"), looks := false }, kinds := [], alts := [], laidByText := true, laidKinds := [.data, .pinned], laidTests := true, laidLooks := .later }
def FnAncAllCardSaid : Prop := Claim7.holds Tryz.pinned (.plain (OpenSpec.ofChange fnAncAllSpec)) fnAncAllCard

/-- THE SECOND FORM's CARD OF 'laws.FnRepoTree'. -/
def fnRepoTreeUptoCard : Claim7 := { stood := { row := fnRepoTreeUptoRow, standIns := [], harness := (true, "cb60101b0a57ccc6bc487304dc4135e8c5d13615c754936674c995819a16f07c"), looks := false }, kinds := [], alts := [], laidByText := true, laidKinds := [.data, .pinned], laidTests := true, laidLooks := .later }
def FnRepoTreeUptoCardSaid : Prop := Claim7.holds Tryz.pinned (.plain (OpenSpec.upto fnRepoTreeSpec)) fnRepoTreeUptoCard

/-- THE SECOND FORM's CARD OF 'laws.FnAncIs'. -/
def fnAncIsUptoCard : Claim7 := { stood := { row := fnAncIsUptoRow, standIns := [], harness := (true, "cb60101b0a57ccc6bc487304dc4135e8c5d13615c754936674c995819a16f07c"), looks := false }, kinds := [], alts := [], laidByText := true, laidKinds := [.data, .pinned], laidTests := true, laidLooks := .later }
def FnAncIsUptoCardSaid : Prop := Claim7.holds Tryz.pinned (.plain (OpenSpec.upto fnAncIsSpec)) fnAncIsUptoCard

/-- THE SECOND FORM's CARD OF 'laws.FnAncLine'. -/
def fnAncLineUptoCard : Claim7 := { stood := { row := fnAncLineUptoRow, standIns := [], harness := (true, "cb60101b0a57ccc6bc487304dc4135e8c5d13615c754936674c995819a16f07c"), looks := false }, kinds := [], alts := [], laidByText := true, laidKinds := [.data, .pinned], laidTests := true, laidLooks := .later }
def FnAncLineUptoCardSaid : Prop := Claim7.holds Tryz.pinned (.plain (OpenSpec.upto fnAncLineSpec)) fnAncLineUptoCard

/-- THE SECOND FORM's CARD OF 'laws.FnAncAll'. -/
def fnAncAllUptoCard : Claim7 := { stood := { row := fnAncAllUptoRow, standIns := [], harness := (true, "cb60101b0a57ccc6bc487304dc4135e8c5d13615c754936674c995819a16f07c"), looks := false }, kinds := [], alts := [], laidByText := true, laidKinds := [.data, .pinned], laidTests := true, laidLooks := .later }
def FnAncAllUptoCardSaid : Prop := Claim7.holds Tryz.pinned (.plain (OpenSpec.upto fnAncAllSpec)) fnAncAllUptoCard
end Rows
end Go.Proofs.YtmjjhnahdmlmaaaGreatDoor
