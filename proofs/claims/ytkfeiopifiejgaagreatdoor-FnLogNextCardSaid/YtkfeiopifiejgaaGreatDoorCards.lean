/-
  DERIVED. GIVEN WITH THE SEED: THE CARDS: each row of YtkfeiopifiejgaaGreatDoorRows.lean that lists a variable, with what it lists TIED to the program's text (the seventh form; the later family's looks); each row that meets fmt, with fmt's text TOLD by the authors' own Lean function (tested against real Go, not proved from fmt's source: count such statements apart). THE CARD IS WHAT COUNTS. Prove the row's statement (the work); the ties are given (YtkfeiopifiejgaaGreatDoorTie.lean); close each card by the builder's one call (the guide's Derived/Test/ToyasCard.lean, 'card_holds'). Laid BY PROGRAM, IN A SANDBOX (cutbox-door.mjs). By AI agents, Wed Nov 11 2026. No macro, syntax, notation, axiom, sorry.
-/
import Derived.Test.YtkfeiopifiejgaaGreatDoorRows
import GoSem.ClaimSeven
namespace Go.Proofs.YtkfeiopifiejgaaGreatDoor
namespace Rows

/-- THE TIED CARD OF 'laws.FnAncFar'. -/
def fnAncFarCard : Claim7 := { stood := { row := fnAncFarRow, standIns := [], harness := (true, "c2d965df2634e03d3759162efa84c6c55acc3c4d97fa40183a86cba7dd1486e0"), looks := false }, kinds := [], alts := [], laidByText := true, laidKinds := [.data, .pinned], laidTests := true, laidLooks := .later }
def FnAncFarCardSaid : Prop := Claim7.holds Tryz.pinned (.plain (OpenSpec.ofChange fnAncFarSpec)) fnAncFarCard

/-- THE TIED CARD OF 'laws.FnLogWho'. -/
def fnLogWhoCard : Claim7 := { stood := { row := fnLogWhoRow, standIns := [], harness := (true, "c2d965df2634e03d3759162efa84c6c55acc3c4d97fa40183a86cba7dd1486e0"), looks := false }, kinds := [], alts := [], laidByText := true, laidKinds := [.data, .pinned], laidTests := true, laidLooks := .later }
def FnLogWhoCardSaid : Prop := Claim7.holds Tryz.pinned (.plain (OpenSpec.ofChange fnLogWhoSpec)) fnLogWhoCard

/-- THE TIED CARD OF 'laws.FnAncBases'. -/
def fnAncBasesCard : Claim7 := { stood := { row := fnAncBasesRow, standIns := [], harness := (true, "c2d965df2634e03d3759162efa84c6c55acc3c4d97fa40183a86cba7dd1486e0"), looks := false }, kinds := [], alts := [], laidByText := true, laidKinds := [.data, .pinned], laidTests := true, laidLooks := .later }
def FnAncBasesCardSaid : Prop := Claim7.holds Tryz.pinned (.plain (OpenSpec.ofChange fnAncBasesSpec)) fnAncBasesCard

/-- THE TIED CARD OF 'laws.FnAncNew'. -/
def fnAncNewCard : Claim7 := { stood := { row := fnAncNewRow, standIns := [], harness := (true, "c2d965df2634e03d3759162efa84c6c55acc3c4d97fa40183a86cba7dd1486e0"), looks := false }, kinds := [], alts := [], laidByText := true, laidKinds := [.data, .pinned], laidTests := true, laidLooks := .later }
def FnAncNewCardSaid : Prop := Claim7.holds Tryz.pinned (.plain (OpenSpec.ofChange fnAncNewSpec)) fnAncNewCard

/-- THE TIED CARD OF 'laws.FnKeepLive'. -/
def fnKeepLiveCard : Claim7 := { stood := { row := fnKeepLiveRow, standIns := [], harness := (true, "c2d965df2634e03d3759162efa84c6c55acc3c4d97fa40183a86cba7dd1486e0"), looks := false }, kinds := [], alts := [], laidByText := true, laidKinds := [.data, .pinned], laidTests := true, laidLooks := .later }
def FnKeepLiveCardSaid : Prop := Claim7.holds Tryz.pinned (.plain (OpenSpec.ofChange fnKeepLiveSpec)) fnKeepLiveCard

/-- THE TIED CARD OF 'laws.FnLogLeft'. -/
def fnLogLeftCard : Claim7 := { stood := { row := fnLogLeftRow, standIns := [], harness := (true, "c2d965df2634e03d3759162efa84c6c55acc3c4d97fa40183a86cba7dd1486e0"), looks := false }, kinds := [], alts := [], laidByText := true, laidKinds := [.data, .pinned], laidTests := true, laidLooks := .later }
def FnLogLeftCardSaid : Prop := Claim7.holds Tryz.pinned (.plain (OpenSpec.ofChange fnLogLeftSpec)) fnLogLeftCard

/-- THE TIED CARD OF 'laws.FnLogNext'. -/
def fnLogNextCard : Claim7 := { stood := { row := fnLogNextRow, standIns := [], harness := (true, "c2d965df2634e03d3759162efa84c6c55acc3c4d97fa40183a86cba7dd1486e0"), looks := false }, kinds := [], alts := [], laidByText := true, laidKinds := [.data, .pinned], laidTests := true, laidLooks := .later }
def FnLogNextCardSaid : Prop := Claim7.holds Tryz.pinned (.plain (OpenSpec.ofChange fnLogNextSpec)) fnLogNextCard

/-- THE SECOND FORM's CARD OF 'laws.FnAncFar'. -/
def fnAncFarUptoCard : Claim7 := { stood := { row := fnAncFarUptoRow, standIns := [], harness := (true, "c2d965df2634e03d3759162efa84c6c55acc3c4d97fa40183a86cba7dd1486e0"), looks := false }, kinds := [], alts := [], laidByText := true, laidKinds := [.data, .pinned], laidTests := true, laidLooks := .later }
def FnAncFarUptoCardSaid : Prop := Claim7.holds Tryz.pinned (.plain (OpenSpec.upto fnAncFarSpec)) fnAncFarUptoCard

/-- THE SECOND FORM's CARD OF 'laws.FnLogWho'. -/
def fnLogWhoUptoCard : Claim7 := { stood := { row := fnLogWhoUptoRow, standIns := [], harness := (true, "c2d965df2634e03d3759162efa84c6c55acc3c4d97fa40183a86cba7dd1486e0"), looks := false }, kinds := [], alts := [], laidByText := true, laidKinds := [.data, .pinned], laidTests := true, laidLooks := .later }
def FnLogWhoUptoCardSaid : Prop := Claim7.holds Tryz.pinned (.plain (OpenSpec.upto fnLogWhoSpec)) fnLogWhoUptoCard

/-- THE SECOND FORM's CARD OF 'laws.FnAncBases'. -/
def fnAncBasesUptoCard : Claim7 := { stood := { row := fnAncBasesUptoRow, standIns := [], harness := (true, "c2d965df2634e03d3759162efa84c6c55acc3c4d97fa40183a86cba7dd1486e0"), looks := false }, kinds := [], alts := [], laidByText := true, laidKinds := [.data, .pinned], laidTests := true, laidLooks := .later }
def FnAncBasesUptoCardSaid : Prop := Claim7.holds Tryz.pinned (.plain (OpenSpec.upto fnAncBasesSpec)) fnAncBasesUptoCard

/-- THE SECOND FORM's CARD OF 'laws.FnAncNew'. -/
def fnAncNewUptoCard : Claim7 := { stood := { row := fnAncNewUptoRow, standIns := [], harness := (true, "c2d965df2634e03d3759162efa84c6c55acc3c4d97fa40183a86cba7dd1486e0"), looks := false }, kinds := [], alts := [], laidByText := true, laidKinds := [.data, .pinned], laidTests := true, laidLooks := .later }
def FnAncNewUptoCardSaid : Prop := Claim7.holds Tryz.pinned (.plain (OpenSpec.upto fnAncNewSpec)) fnAncNewUptoCard

/-- THE SECOND FORM's CARD OF 'laws.FnKeepLive'. -/
def fnKeepLiveUptoCard : Claim7 := { stood := { row := fnKeepLiveUptoRow, standIns := [], harness := (true, "c2d965df2634e03d3759162efa84c6c55acc3c4d97fa40183a86cba7dd1486e0"), looks := false }, kinds := [], alts := [], laidByText := true, laidKinds := [.data, .pinned], laidTests := true, laidLooks := .later }
def FnKeepLiveUptoCardSaid : Prop := Claim7.holds Tryz.pinned (.plain (OpenSpec.upto fnKeepLiveSpec)) fnKeepLiveUptoCard

/-- THE SECOND FORM's CARD OF 'laws.FnLogLeft'. -/
def fnLogLeftUptoCard : Claim7 := { stood := { row := fnLogLeftUptoRow, standIns := [], harness := (true, "c2d965df2634e03d3759162efa84c6c55acc3c4d97fa40183a86cba7dd1486e0"), looks := false }, kinds := [], alts := [], laidByText := true, laidKinds := [.data, .pinned], laidTests := true, laidLooks := .later }
def FnLogLeftUptoCardSaid : Prop := Claim7.holds Tryz.pinned (.plain (OpenSpec.upto fnLogLeftSpec)) fnLogLeftUptoCard

/-- THE SECOND FORM's CARD OF 'laws.FnLogNext'. -/
def fnLogNextUptoCard : Claim7 := { stood := { row := fnLogNextUptoRow, standIns := [], harness := (true, "c2d965df2634e03d3759162efa84c6c55acc3c4d97fa40183a86cba7dd1486e0"), looks := false }, kinds := [], alts := [], laidByText := true, laidKinds := [.data, .pinned], laidTests := true, laidLooks := .later }
def FnLogNextUptoCardSaid : Prop := Claim7.holds Tryz.pinned (.plain (OpenSpec.upto fnLogNextSpec)) fnLogNextUptoCard
end Rows
end Go.Proofs.YtkfeiopifiejgaaGreatDoor
