/-
  DERIVED. GIVEN WITH THE SEED: THE CARDS: each row of YtjdljoplpcakpaaDoorRows.lean that lists a variable, with what it lists TIED to the program's text (the seventh form; the later family's looks); each row that meets fmt, with fmt's text TOLD by the authors' own Lean function (tested against real Go, not proved from fmt's source: count such statements apart). THE CARD IS WHAT COUNTS. Prove the row's statement (the work); the ties are given (YtjdljoplpcakpaaDoorTie.lean); close each card by the builder's one call (the guide's Derived/Test/ToyasCard.lean, 'card_holds'). Laid BY PROGRAM, IN A SANDBOX (cutbox-door.mjs). By AI agents, Wed Nov 11 2026. No macro, syntax, notation, axiom, sorry.
-/
import Derived.Test.YtjdljoplpcakpaaDoorRows
import GoSem.ClaimSeven
namespace Go.Proofs.YtjdljoplpcakpaaDoor
namespace Rows

/-- THE TIED CARD OF 'laws.FnExactOwnerOf'. -/
def fnExactOwnerOfCard : Claim7 := { stood := { row := fnExactOwnerOfRow, standIns := [], harness := (true, "8d012aa5fc5e3fc751b4eb6971cff8db24789c7a96190c56692f6170c2301513"), looks := false }, kinds := [], alts := [], laidByText := true, laidKinds := [.data, .pinned], laidTests := true, laidLooks := .later }
def FnExactOwnerOfCardSaid : Prop := Claim7.holds Tryd.pinned (.plain (OpenSpec.ofChange fnExactOwnerOfSpec)) fnExactOwnerOfCard

/-- THE TIED CARD OF 'laws.FnExactOpOk'. -/
def fnExactOpOkCard : Claim7 := { stood := { row := fnExactOpOkRow, standIns := [], harness := (true, "8d012aa5fc5e3fc751b4eb6971cff8db24789c7a96190c56692f6170c2301513"), looks := false }, kinds := [], alts := [], laidByText := true, laidKinds := [.data, .pinned], laidTests := true, laidLooks := .later }
def FnExactOpOkCardSaid : Prop := Claim7.holds Tryd.pinned (.plain (OpenSpec.ofChange fnExactOpOkSpec)) fnExactOpOkCard

/-- THE SECOND FORM's CARD OF 'laws.FnExactOwnerOf'. -/
def fnExactOwnerOfUptoCard : Claim7 := { stood := { row := fnExactOwnerOfUptoRow, standIns := [], harness := (true, "8d012aa5fc5e3fc751b4eb6971cff8db24789c7a96190c56692f6170c2301513"), looks := false }, kinds := [], alts := [], laidByText := true, laidKinds := [.data, .pinned], laidTests := true, laidLooks := .later }
def FnExactOwnerOfUptoCardSaid : Prop := Claim7.holds Tryd.pinned (.plain (OpenSpec.upto fnExactOwnerOfSpec)) fnExactOwnerOfUptoCard

/-- THE SECOND FORM's CARD OF 'laws.FnExactOpOk'. -/
def fnExactOpOkUptoCard : Claim7 := { stood := { row := fnExactOpOkUptoRow, standIns := [], harness := (true, "8d012aa5fc5e3fc751b4eb6971cff8db24789c7a96190c56692f6170c2301513"), looks := false }, kinds := [], alts := [], laidByText := true, laidKinds := [.data, .pinned], laidTests := true, laidLooks := .later }
def FnExactOpOkUptoCardSaid : Prop := Claim7.holds Tryd.pinned (.plain (OpenSpec.upto fnExactOpOkSpec)) fnExactOpOkUptoCard
end Rows
end Go.Proofs.YtjdljoplpcakpaaDoor
