/-
  DERIVED. GIVEN WITH THE SEED: THE CARDS: each row of YtjokjcdckcpijaaDoorRows.lean that lists a variable, with what it lists TIED to the program's text (the seventh form; the later family's looks); each row that meets fmt, with fmt's text TOLD by the authors' own Lean function (tested against real Go, not proved from fmt's source: count such statements apart). THE CARD IS WHAT COUNTS. Prove the row's statement (the work); the ties are given (YtjokjcdckcpijaaDoorTie.lean); close each card by the builder's one call (the guide's Derived/Test/ToyasCard.lean, 'card_holds'). Laid BY PROGRAM, IN A SANDBOX (cutbox-door.mjs). By AI agents, Wed Nov 11 2026. No macro, syntax, notation, axiom, sorry.
-/
import Derived.Test.YtjokjcdckcpijaaDoorRows
import GoSem.ClaimSeven
namespace Go.Proofs.YtjokjcdckcpijaaDoor
namespace Rows

/-- THE TIED CARD OF 'laws.FnOpGet'. -/
def fnOpGetCard : Claim7 := { stood := { row := fnOpGetRow, standIns := [], harness := (true, "c39358c87162f9aa9ee11e3766edbb5bba6274012525c49131f24f7075b1d376"), looks := true }, kinds := [], alts := [], laidByText := true, laidKinds := [.data, .data, .data, .data, .sentinel, .sentinel, .pinned], laidTests := true, laidLooks := .later }
def FnOpGetCardSaid : Prop := Claim7.holds Tryd.pinned (.plain (OpenSpec.ofChange fnOpGetSpec)) fnOpGetCard

/-- THE TIED CARD OF 'laws.FnOpPut'. -/
def fnOpPutCard : Claim7 := { stood := { row := fnOpPutRow, standIns := [], harness := (true, "c39358c87162f9aa9ee11e3766edbb5bba6274012525c49131f24f7075b1d376"), looks := true }, kinds := [], alts := [], laidByText := true, laidKinds := [.data, .data, .data, .data, .sentinel, .sentinel, .pinned], laidTests := true, laidLooks := .later }
def FnOpPutCardSaid : Prop := Claim7.holds Tryd.pinned (.plain (OpenSpec.ofChange fnOpPutSpec)) fnOpPutCard

/-- THE TIED CARD OF 'laws.FnExactOpPut'. -/
def fnExactOpPutCard : Claim7 := { stood := { row := fnExactOpPutRow, standIns := [], harness := (true, "c39358c87162f9aa9ee11e3766edbb5bba6274012525c49131f24f7075b1d376"), looks := true }, kinds := [], alts := [], laidByText := true, laidKinds := [.data, .data, .data, .data, .pinned], laidTests := true, laidLooks := .later }
def FnExactOpPutCardSaid : Prop := Claim7.holds Tryd.pinned (.plain (OpenSpec.ofChange fnExactOpPutSpec)) fnExactOpPutCard

/-- THE SECOND FORM's CARD OF 'laws.FnOpGet'. -/
def fnOpGetUptoCard : Claim7 := { stood := { row := fnOpGetUptoRow, standIns := [], harness := (true, "c39358c87162f9aa9ee11e3766edbb5bba6274012525c49131f24f7075b1d376"), looks := true }, kinds := [], alts := [], laidByText := true, laidKinds := [.data, .data, .data, .data, .sentinel, .sentinel, .pinned], laidTests := true, laidLooks := .later }
def FnOpGetUptoCardSaid : Prop := Claim7.holds Tryd.pinned (.plain (OpenSpec.upto fnOpGetSpec)) fnOpGetUptoCard

/-- THE SECOND FORM's CARD OF 'laws.FnOpPut'. -/
def fnOpPutUptoCard : Claim7 := { stood := { row := fnOpPutUptoRow, standIns := [], harness := (true, "c39358c87162f9aa9ee11e3766edbb5bba6274012525c49131f24f7075b1d376"), looks := true }, kinds := [], alts := [], laidByText := true, laidKinds := [.data, .data, .data, .data, .sentinel, .sentinel, .pinned], laidTests := true, laidLooks := .later }
def FnOpPutUptoCardSaid : Prop := Claim7.holds Tryd.pinned (.plain (OpenSpec.upto fnOpPutSpec)) fnOpPutUptoCard

/-- THE SECOND FORM's CARD OF 'laws.FnExactOpPut'. -/
def fnExactOpPutUptoCard : Claim7 := { stood := { row := fnExactOpPutUptoRow, standIns := [], harness := (true, "c39358c87162f9aa9ee11e3766edbb5bba6274012525c49131f24f7075b1d376"), looks := true }, kinds := [], alts := [], laidByText := true, laidKinds := [.data, .data, .data, .data, .pinned], laidTests := true, laidLooks := .later }
def FnExactOpPutUptoCardSaid : Prop := Claim7.holds Tryd.pinned (.plain (OpenSpec.upto fnExactOpPutSpec)) fnExactOpPutUptoCard
end Rows
end Go.Proofs.YtjokjcdckcpijaaDoor
