/-
  NARROWER THAN 'FOR EVERY INPUT', by the rows' own cells (each row's printed sentence says how): FnExactReviewLand: laid · FnBlameWho: laid · FnReviewFree: laid.
  DERIVED. THE GIVEN ROWS OF THIS SEAT. 3 by the template 'for every input the law returns true; each argument reads behind the call as it read before'; 0 by the template 'total and deterministic' (their statements: YtifbmanldeabeaaGreatDoorTotals.lean).
  GIVEN WITH THE SEED: the statements are not yours to turn. If you find one false, say at which input.
  Laid BY PROGRAM, IN A SANDBOX (cutbox-rows.mjs): the forced cells as the released guide's own fill.sh prints them over the translation 7a2ac11e04540c50… (all of the seat's roots in one cut). By AI agents, Wed Nov 11 2026. No macro, syntax, notation, axiom, sorry.
-/
import Derived.Test.YtifbmanldeabeaaGreatDoorChecked
import GoSem.PinnedTables
import GoSem.Claim
import GoSem.ClaimJoined
import GoSem.ClaimMapViews
import Derived.JoinedTies
import Derived.KernelRfl
namespace Go.Proofs.YtifbmanldeabeaaGreatDoor
/- THE CELL 'sum', in the pinned program and in every row, IS THE sha256 OF THE DUMP (.gsa) THAT YtifbmanldeabeaaGreatDoorProg.lean LOADS. Nothing in Lean hashes anything: it is a label: what it is worth is what the hold of that sum in a sandbox is worth. -/
noncomputable def Tryz.pinned : Pinned := { name := "ytifbmanldeabeaagreatdoor", sum := "7a2ac11e04540c507aec0f825e1b5b6099c9d9f3b0e640a46392d6de806815c7", checked := Tryz.checked }
namespace Rows
def none {H : Type} : Left H := { results := [], args := [] }

/- WHAT THE LISTED PACKAGE-LEVEL VARIABLES READ AS WHEN THE CALL BEGINS. Each datum BY PROGRAM (the guide's laid-datum.mjs) off the statement by which the dump's own 'gosem.cut.vars' lays the variable. In a bare row this is a premise. The card (YtifbmanldeabeaaGreatDoorCards.lean) ties it to the program's text. -/
def laid_unicode_utf8_acceptRanges {H : Type} : DataW H := .agg [.agg [.lit (.int .u8 128), .lit (.int .u8 191)], .agg [.lit (.int .u8 160), .lit (.int .u8 191)], .agg [.lit (.int .u8 128), .lit (.int .u8 159)], .agg [.lit (.int .u8 144), .lit (.int .u8 191)], .agg [.lit (.int .u8 128), .lit (.int .u8 143)], .agg [.lit (.int .u8 0), .lit (.int .u8 0)], .agg [.lit (.int .u8 0), .lit (.int .u8 0)], .agg [.lit (.int .u8 0), .lit (.int .u8 0)], .agg [.lit (.int .u8 0), .lit (.int .u8 0)], .agg [.lit (.int .u8 0), .lit (.int .u8 0)], .agg [.lit (.int .u8 0), .lit (.int .u8 0)], .agg [.lit (.int .u8 0), .lit (.int .u8 0)], .agg [.lit (.int .u8 0), .lit (.int .u8 0)], .agg [.lit (.int .u8 0), .lit (.int .u8 0)], .agg [.lit (.int .u8 0), .lit (.int .u8 0)], .agg [.lit (.int .u8 0), .lit (.int .u8 0)]]
/-- One of Go's own tables, pinned by name: the form's constant. -/
def laid_unicode_utf8_first : DataW Unit := Go.Pinned.utf8First

/-- 'laws.FnExactReviewLand': WHATEVER THE INPUT: true; the input reads as it did. -/
def fnExactReviewLandSpec : ChangeSpec := { name := "fnExactReviewLand", fn := fun _ => fun
  | [d1, d2, d3] => { results := [.lit (.bool true)], args := [d1, d2, d3] }
  | _ => none }
def fnExactReviewLandRow : OpenClaim := { program := "ytifbmanldeabeaagreatdoor", sum := "7a2ac11e04540c507aec0f825e1b5b6099c9d9f3b0e640a46392d6de806815c7", func := "loop.example/versioncontrol/laws.FnExactReviewLand", spec := "fnExactReviewLand", inPlace := ["internal/bytealg.CountString", "internal/bytealg.IndexByteString", "internal/bytealg.IndexString", "slices.overlaps[loop.example/versioncontrol/impl.Head]"], unfollowed := true, recurses := true, named := ["unicode/utf8.first", "unicode/utf8.acceptRanges", "internal/bytealg.MaxLen"], apart := false, laid := [("unicode/utf8.acceptRanges", laid_unicode_utf8_acceptRanges), ("unicode/utf8.first", laid_unicode_utf8_first)] }
def FnExactReviewLandSaid : Prop := fnExactReviewLandRow.holds Tryz.pinned (OpenSpec.ofChange fnExactReviewLandSpec)

/-- ITS FALSE NEIGHBOUR: 'it returns false'. Refute it at one input. -/
def fnExactReviewLandWrong : ChangeSpec := { name := "fnExactReviewLand", fn := fun _ => fun
  | [d1, d2, d3] => { results := [.lit (.bool false)], args := [d1, d2, d3] }
  | _ => none }
def FnExactReviewLandWrongFalsely : Prop := fnExactReviewLandRow.holds Tryz.pinned (OpenSpec.ofChange fnExactReviewLandWrong)

/-- 'laws.FnBlameWho': WHATEVER THE INPUT: true; the input reads as it did. -/
def fnBlameWhoSpec : ChangeSpec := { name := "fnBlameWho", fn := fun _ => fun
  | [d] => { results := [.lit (.bool true)], args := [d] }
  | _ => none }
def fnBlameWhoRow : OpenClaim := { program := "ytifbmanldeabeaagreatdoor", sum := "7a2ac11e04540c507aec0f825e1b5b6099c9d9f3b0e640a46392d6de806815c7", func := "loop.example/versioncontrol/laws.FnBlameWho", spec := "fnBlameWho", inPlace := ["internal/bytealg.CountString", "internal/bytealg.IndexByteString", "internal/bytealg.IndexString"], unfollowed := true, recurses := true, named := ["unicode/utf8.first", "unicode/utf8.acceptRanges", "internal/bytealg.MaxLen"], apart := false, laid := [("unicode/utf8.acceptRanges", laid_unicode_utf8_acceptRanges), ("unicode/utf8.first", laid_unicode_utf8_first)] }
def FnBlameWhoSaid : Prop := fnBlameWhoRow.holds Tryz.pinned (OpenSpec.ofChange fnBlameWhoSpec)

/-- ITS FALSE NEIGHBOUR: 'it returns false'. Refute it at one input. -/
def fnBlameWhoWrong : ChangeSpec := { name := "fnBlameWho", fn := fun _ => fun
  | [d] => { results := [.lit (.bool false)], args := [d] }
  | _ => none }
def FnBlameWhoWrongFalsely : Prop := fnBlameWhoRow.holds Tryz.pinned (OpenSpec.ofChange fnBlameWhoWrong)

/-- 'laws.FnReviewFree': WHATEVER THE INPUT: true; the input reads as it did. -/
def fnReviewFreeSpec : ChangeSpec := { name := "fnReviewFree", fn := fun _ => fun
  | [d] => { results := [.lit (.bool true)], args := [d] }
  | _ => none }
def fnReviewFreeRow : OpenClaim := { program := "ytifbmanldeabeaagreatdoor", sum := "7a2ac11e04540c507aec0f825e1b5b6099c9d9f3b0e640a46392d6de806815c7", func := "loop.example/versioncontrol/laws.FnReviewFree", spec := "fnReviewFree", inPlace := ["internal/bytealg.CountString", "internal/bytealg.IndexByteString", "internal/bytealg.IndexString"], recurses := true, named := ["unicode/utf8.first", "unicode/utf8.acceptRanges", "internal/bytealg.MaxLen"], apart := false, laid := [("unicode/utf8.acceptRanges", laid_unicode_utf8_acceptRanges), ("unicode/utf8.first", laid_unicode_utf8_first)] }
def FnReviewFreeSaid : Prop := fnReviewFreeRow.holds Tryz.pinned (OpenSpec.ofChange fnReviewFreeSpec)

/-- ITS FALSE NEIGHBOUR: 'it returns false'. Refute it at one input. -/
def fnReviewFreeWrong : ChangeSpec := { name := "fnReviewFree", fn := fun _ => fun
  | [d] => { results := [.lit (.bool false)], args := [d] }
  | _ => none }
def FnReviewFreeWrongFalsely : Prop := fnReviewFreeRow.holds Tryz.pinned (OpenSpec.ofChange fnReviewFreeWrong)

/- THE SECOND FORM. 'bulk': how many values and letters a reading holds, each counted each time it is reached (what is shared counts as often as it is met; a slice's spare places count too). A statement '..UptoSaid' is the law's where the arguments, and the package variables that the reading takes, are together of bulk at most 1048576: NARROWER than '..Said'. Prove '..Said' where nothing that the law and all that it calls make is longer than what came in: it says more and counts as full. Else prove '..UptoSaid'. A law counts once. -/
mutual
def uptoBulk {H : Type} : DataW H → Nat
  | .lit (.string bytes) => bytes.length + 1
  | .lit _ => 1
  | .nil => 1
  | .ptr d => uptoBulk d + 1
  | .slice elems spare => uptoBulkAll elems + uptoBulkAll spare + 1
  | .agg parts => uptoBulkAll parts + 1
  | .iface _ d => uptoBulk d + 1
  | .map entries => uptoBulkEntries entries + 1
  | .held _ => 1
def uptoBulkAll {H : Type} : List (DataW H) → Nat
  | [] => 0
  | d :: r => uptoBulk d + uptoBulkAll r
def uptoBulkEntries {H : Type} : List (Lit × DataW H) → Nat
  | [] => 0
  | x :: r => uptoBulkEntry x + uptoBulkEntries r
def uptoBulkEntry {H : Type} : Lit × DataW H → Nat
  | (.string bytes, d) => bytes.length + uptoBulk d + 1
  | (_, d) => uptoBulk d + 1
 end
def uptoSmall : (H : Type) → List (DataW H) → Bool := fun _ ds => decide (uptoBulkAll ds ≤ 1048576)
def OpenSpec.upto (s : _root_.Go.ChangeSpec) : _root_.Go.OpenSpec := { _root_.Go.OpenSpec.ofChange s with cond := some uptoSmall }

/-- 'laws.FnExactReviewLand', WHERE WHAT IT READS IS OF BULK AT MOST 1048576: true; the input reads as it did. -/
def fnExactReviewLandUptoRow : OpenClaim := { program := "ytifbmanldeabeaagreatdoor", sum := "7a2ac11e04540c507aec0f825e1b5b6099c9d9f3b0e640a46392d6de806815c7", func := "loop.example/versioncontrol/laws.FnExactReviewLand", spec := "fnExactReviewLand", inPlace := ["internal/bytealg.CountString", "internal/bytealg.IndexByteString", "internal/bytealg.IndexString", "slices.overlaps[loop.example/versioncontrol/impl.Head]"], unfollowed := true, recurses := true, named := ["unicode/utf8.first", "unicode/utf8.acceptRanges", "internal/bytealg.MaxLen"], apart := false, laid := [("unicode/utf8.acceptRanges", laid_unicode_utf8_acceptRanges), ("unicode/utf8.first", laid_unicode_utf8_first)], narrowed := true }
def FnExactReviewLandUptoSaid : Prop := fnExactReviewLandUptoRow.holds Tryz.pinned (OpenSpec.upto fnExactReviewLandSpec)

/-- 'laws.FnBlameWho', WHERE WHAT IT READS IS OF BULK AT MOST 1048576: true; the input reads as it did. -/
def fnBlameWhoUptoRow : OpenClaim := { program := "ytifbmanldeabeaagreatdoor", sum := "7a2ac11e04540c507aec0f825e1b5b6099c9d9f3b0e640a46392d6de806815c7", func := "loop.example/versioncontrol/laws.FnBlameWho", spec := "fnBlameWho", inPlace := ["internal/bytealg.CountString", "internal/bytealg.IndexByteString", "internal/bytealg.IndexString"], unfollowed := true, recurses := true, named := ["unicode/utf8.first", "unicode/utf8.acceptRanges", "internal/bytealg.MaxLen"], apart := false, laid := [("unicode/utf8.acceptRanges", laid_unicode_utf8_acceptRanges), ("unicode/utf8.first", laid_unicode_utf8_first)], narrowed := true }
def FnBlameWhoUptoSaid : Prop := fnBlameWhoUptoRow.holds Tryz.pinned (OpenSpec.upto fnBlameWhoSpec)

/-- 'laws.FnReviewFree', WHERE WHAT IT READS IS OF BULK AT MOST 1048576: true; the input reads as it did. -/
def fnReviewFreeUptoRow : OpenClaim := { program := "ytifbmanldeabeaagreatdoor", sum := "7a2ac11e04540c507aec0f825e1b5b6099c9d9f3b0e640a46392d6de806815c7", func := "loop.example/versioncontrol/laws.FnReviewFree", spec := "fnReviewFree", inPlace := ["internal/bytealg.CountString", "internal/bytealg.IndexByteString", "internal/bytealg.IndexString"], recurses := true, named := ["unicode/utf8.first", "unicode/utf8.acceptRanges", "internal/bytealg.MaxLen"], apart := false, laid := [("unicode/utf8.acceptRanges", laid_unicode_utf8_acceptRanges), ("unicode/utf8.first", laid_unicode_utf8_first)], narrowed := true }
def FnReviewFreeUptoSaid : Prop := fnReviewFreeUptoRow.holds Tryz.pinned (OpenSpec.upto fnReviewFreeSpec)

end Rows
end Go.Proofs.YtifbmanldeabeaaGreatDoor
