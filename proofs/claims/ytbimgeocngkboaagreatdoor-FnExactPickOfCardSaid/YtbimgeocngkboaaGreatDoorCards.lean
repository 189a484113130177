/-
  DERIVED. GIVEN WITH THE SEED: THE CARDS: each row of YtbimgeocngkboaaGreatDoorRows.lean that lists a variable, with what it lists TIED to the program's text (the seventh form; the later family's looks); each row that meets fmt, with fmt's text TOLD by the authors' own Lean function (tested against real Go, not proved from fmt's source: count such statements apart). THE CARD IS WHAT COUNTS. Prove the row's statement (the work); the ties are given (YtbimgeocngkboaaGreatDoorTie.lean); close each card by the builder's one call (the guide's Derived/Test/ToyasCard.lean, 'card_holds'). Laid BY PROGRAM, IN A SANDBOX (cutbox-door.mjs). By AI agents, Wed Nov 11 2026. No macro, syntax, notation, axiom, sorry.
-/
import Derived.Test.YtbimgeocngkboaaGreatDoorRows
import GoSem.ClaimSeven
namespace Go.Proofs.YtbimgeocngkboaaGreatDoor
namespace Rows

/-- THE TIED CARD OF 'laws.FnExactUniteInto'. -/
def fnExactUniteIntoCard : Claim7 := { stood := { row := fnExactUniteIntoRow, standIns := [], harness := (true, "2c6b488f97d373a96a710cf7141037f7e4d9cc508839aa464d9503efe58bb0a6"), looks := false }, kinds := [], alts := [], laidByText := true, laidKinds := [.data, .pinned], laidTests := true, laidLooks := .later }
def FnExactUniteIntoCardSaid : Prop := Claim7.holds Tryz.pinned (.plain (OpenSpec.ofChange fnExactUniteIntoSpec)) fnExactUniteIntoCard

/-- THE TIED CARD OF 'laws.FnExactPickBack'. -/
def fnExactPickBackCard : Claim7 := { stood := { row := fnExactPickBackRow, standIns := [], harness := (true, "2c6b488f97d373a96a710cf7141037f7e4d9cc508839aa464d9503efe58bb0a6"), looks := false }, kinds := [], alts := [], laidByText := true, laidKinds := [.data, .pinned], laidTests := true, laidLooks := .later }
def FnExactPickBackCardSaid : Prop := Claim7.holds Tryz.pinned (.plain (OpenSpec.ofChange fnExactPickBackSpec)) fnExactPickBackCard

/-- THE TIED CARD OF 'laws.FnExactPickOf'. -/
def fnExactPickOfCard : Claim7 := { stood := { row := fnExactPickOfRow, standIns := [], harness := (true, "2c6b488f97d373a96a710cf7141037f7e4d9cc508839aa464d9503efe58bb0a6"), looks := false }, kinds := [], alts := [], laidByText := true, laidKinds := [.data, .pinned], laidTests := true, laidLooks := .later }
def FnExactPickOfCardSaid : Prop := Claim7.holds Tryz.pinned (.plain (OpenSpec.ofChange fnExactPickOfSpec)) fnExactPickOfCard

/-- THE SECOND FORM's CARD OF 'laws.FnExactUniteInto'. -/
def fnExactUniteIntoUptoCard : Claim7 := { stood := { row := fnExactUniteIntoUptoRow, standIns := [], harness := (true, "2c6b488f97d373a96a710cf7141037f7e4d9cc508839aa464d9503efe58bb0a6"), looks := false }, kinds := [], alts := [], laidByText := true, laidKinds := [.data, .pinned], laidTests := true, laidLooks := .later }
def FnExactUniteIntoUptoCardSaid : Prop := Claim7.holds Tryz.pinned (.plain (OpenSpec.upto fnExactUniteIntoSpec)) fnExactUniteIntoUptoCard

/-- THE SECOND FORM's CARD OF 'laws.FnExactPickBack'. -/
def fnExactPickBackUptoCard : Claim7 := { stood := { row := fnExactPickBackUptoRow, standIns := [], harness := (true, "2c6b488f97d373a96a710cf7141037f7e4d9cc508839aa464d9503efe58bb0a6"), looks := false }, kinds := [], alts := [], laidByText := true, laidKinds := [.data, .pinned], laidTests := true, laidLooks := .later }
def FnExactPickBackUptoCardSaid : Prop := Claim7.holds Tryz.pinned (.plain (OpenSpec.upto fnExactPickBackSpec)) fnExactPickBackUptoCard

/-- THE SECOND FORM's CARD OF 'laws.FnExactPickOf'. -/
def fnExactPickOfUptoCard : Claim7 := { stood := { row := fnExactPickOfUptoRow, standIns := [], harness := (true, "2c6b488f97d373a96a710cf7141037f7e4d9cc508839aa464d9503efe58bb0a6"), looks := false }, kinds := [], alts := [], laidByText := true, laidKinds := [.data, .pinned], laidTests := true, laidLooks := .later }
def FnExactPickOfUptoCardSaid : Prop := Claim7.holds Tryz.pinned (.plain (OpenSpec.upto fnExactPickOfSpec)) fnExactPickOfUptoCard
end Rows
end Go.Proofs.YtbimgeocngkboaaGreatDoor
