/-
  DERIVED. GIVEN WITH THE SEED: THE CARDS: each row of YtifbmanldeabeaaDoorRows.lean that lists a variable, with what it lists TIED to the program's text (the seventh form; the later family's looks); each row that meets fmt, with fmt's text TOLD by the authors' own Lean function (tested against real Go, not proved from fmt's source: count such statements apart). THE CARD IS WHAT COUNTS. Prove the row's statement (the work); the ties are given (YtifbmanldeabeaaDoorTie.lean); close each card by the builder's one call (the guide's Derived/Test/ToyasCard.lean, 'card_holds'). Laid BY PROGRAM, IN A SANDBOX (cutbox-door.mjs). By AI agents, Wed Nov 11 2026. No macro, syntax, notation, axiom, sorry.
-/
import Derived.Test.YtifbmanldeabeaaDoorRows
import GoSem.ClaimSeven
namespace Go.Proofs.YtifbmanldeabeaaDoor
namespace Rows

/-- THE TIED CARD OF 'laws.FnExactOpGet'. -/
def fnExactOpGetCard : Claim7 := { stood := { row := fnExactOpGetRow, standIns := [], harness := (true, "4d5b449de288bd69b253559b99ac5837aa1fa90becbabbd5d94a08feef1542e9"), looks := true }, kinds := [], alts := [], laidByText := true, laidKinds := [.data, .data, .data, .data, .sentinel, .sentinel, .pinned], laidTests := true, laidLooks := .later }
def FnExactOpGetCardSaid : Prop := Claim7.holds Tryd.pinned (.plain (OpenSpec.ofChange fnExactOpGetSpec)) fnExactOpGetCard

/-- THE SECOND FORM's CARD OF 'laws.FnExactOpGet'. -/
def fnExactOpGetUptoCard : Claim7 := { stood := { row := fnExactOpGetUptoRow, standIns := [], harness := (true, "4d5b449de288bd69b253559b99ac5837aa1fa90becbabbd5d94a08feef1542e9"), looks := true }, kinds := [], alts := [], laidByText := true, laidKinds := [.data, .data, .data, .data, .sentinel, .sentinel, .pinned], laidTests := true, laidLooks := .later }
def FnExactOpGetUptoCardSaid : Prop := Claim7.holds Tryd.pinned (.plain (OpenSpec.upto fnExactOpGetSpec)) fnExactOpGetUptoCard
end Rows
end Go.Proofs.YtifbmanldeabeaaDoor
