/-
  NARROWER THAN 'FOR EVERY INPUT', by the rows' own cells (each row's printed sentence says how): FnExactPickBack: laid · FnExactPickOf: laid · FnExactUniteInto: laid · FnExactPickOnto: laid · FnExactReviewNeed: laid · FnPickBack: laid · FnPickOf: laid · FnPickTwo: laid · FnUniteTree: laid · FnLogLeft: laid · FnLogNext: laid · FnLogWho: laid.
  DERIVED. THE GIVEN ROWS OF THIS SEAT. 12 by the template 'for every input the law returns true; each argument reads behind the call as it read before'; 0 by the template 'total and deterministic' (their statements: YtiahldhbknpmiaaGreatDoorTotals.lean).
  GIVEN WITH THE SEED: the statements are not yours to turn. If you find one false, say at which input.
  Laid BY PROGRAM, IN A SANDBOX (cutbox-rows.mjs): the forced cells as the released guide's own fill.sh prints them over the translation 8c69d7c44c42ebf5… (all of the seat's roots in one cut). By AI agents, Wed Nov 11 2026. No macro, syntax, notation, axiom, sorry.
-/
import Derived.Test.YtiahldhbknpmiaaGreatDoorChecked
import GoSem.PinnedTables
import GoSem.Claim
import GoSem.ClaimJoined
import GoSem.ClaimMapViews
import Derived.JoinedTies
import Derived.KernelRfl
namespace Go.Proofs.YtiahldhbknpmiaaGreatDoor
/- THE CELL 'sum', in the pinned program and in every row, IS THE sha256 OF THE DUMP (.gsa) THAT YtiahldhbknpmiaaGreatDoorProg.lean LOADS. Nothing in Lean hashes anything: it is a label: what it is worth is what the hold of that sum in a sandbox is worth. -/
noncomputable def Tryz.pinned : Pinned := { name := "ytiahldhbknpmiaagreatdoor", sum := "8c69d7c44c42ebf5743281c61cbb0f625d51cc40838e05e12f05f8d7314300c4", checked := Tryz.checked }
namespace Rows
def none {H : Type} : Left H := { results := [], args := [] }

/- WHAT THE LISTED PACKAGE-LEVEL VARIABLES READ AS WHEN THE CALL BEGINS. Each datum BY PROGRAM (the guide's laid-datum.mjs) off the statement by which the dump's own 'gosem.cut.vars' lays the variable. In a bare row this is a premise. The card (YtiahldhbknpmiaaGreatDoorCards.lean) ties it to the program's text. -/
def laid_unicode_utf8_acceptRanges {H : Type} : DataW H := .agg [.agg [.lit (.int .u8 128), .lit (.int .u8 191)], .agg [.lit (.int .u8 160), .lit (.int .u8 191)], .agg [.lit (.int .u8 128), .lit (.int .u8 159)], .agg [.lit (.int .u8 144), .lit (.int .u8 191)], .agg [.lit (.int .u8 128), .lit (.int .u8 143)], .agg [.lit (.int .u8 0), .lit (.int .u8 0)], .agg [.lit (.int .u8 0), .lit (.int .u8 0)], .agg [.lit (.int .u8 0), .lit (.int .u8 0)], .agg [.lit (.int .u8 0), .lit (.int .u8 0)], .agg [.lit (.int .u8 0), .lit (.int .u8 0)], .agg [.lit (.int .u8 0), .lit (.int .u8 0)], .agg [.lit (.int .u8 0), .lit (.int .u8 0)], .agg [.lit (.int .u8 0), .lit (.int .u8 0)], .agg [.lit (.int .u8 0), .lit (.int .u8 0)], .agg [.lit (.int .u8 0), .lit (.int .u8 0)], .agg [.lit (.int .u8 0), .lit (.int .u8 0)]]
/-- One of Go's own tables, pinned by name: the form's constant. -/
def laid_unicode_utf8_first : DataW Unit := Go.Pinned.utf8First

/-- 'laws.FnExactPickBack': WHATEVER THE INPUT: true; the input reads as it did. -/
def fnExactPickBackSpec : ChangeSpec := { name := "fnExactPickBack", fn := fun _ => fun
  | [d1, d2, d3, d4] => { results := [.lit (.bool true)], args := [d1, d2, d3, d4] }
  | _ => none }
def fnExactPickBackRow : OpenClaim := { program := "ytiahldhbknpmiaagreatdoor", sum := "8c69d7c44c42ebf5743281c61cbb0f625d51cc40838e05e12f05f8d7314300c4", func := "loop.example/versioncontrol/laws.FnExactPickBack", spec := "fnExactPickBack", inPlace := ["internal/bytealg.CountString", "internal/bytealg.IndexByteString", "internal/bytealg.IndexString", "slices.overlaps[loop.example/versioncontrol/impl.Head]"], unfollowed := true, recurses := true, named := ["unicode/utf8.first", "unicode/utf8.acceptRanges", "internal/bytealg.MaxLen"], apart := false, laid := [("unicode/utf8.acceptRanges", laid_unicode_utf8_acceptRanges), ("unicode/utf8.first", laid_unicode_utf8_first)] }
def FnExactPickBackSaid : Prop := fnExactPickBackRow.holds Tryz.pinned (OpenSpec.ofChange fnExactPickBackSpec)

/-- ITS FALSE NEIGHBOUR: 'it returns false'. Refute it at one input. -/
def fnExactPickBackWrong : ChangeSpec := { name := "fnExactPickBack", fn := fun _ => fun
  | [d1, d2, d3, d4] => { results := [.lit (.bool false)], args := [d1, d2, d3, d4] }
  | _ => none }
def FnExactPickBackWrongFalsely : Prop := fnExactPickBackRow.holds Tryz.pinned (OpenSpec.ofChange fnExactPickBackWrong)

/-- 'laws.FnExactPickOf': WHATEVER THE INPUT: true; the input reads as it did. -/
def fnExactPickOfSpec : ChangeSpec := { name := "fnExactPickOf", fn := fun _ => fun
  | [d1, d2, d3, d4] => { results := [.lit (.bool true)], args := [d1, d2, d3, d4] }
  | _ => none }
def fnExactPickOfRow : OpenClaim := { program := "ytiahldhbknpmiaagreatdoor", sum := "8c69d7c44c42ebf5743281c61cbb0f625d51cc40838e05e12f05f8d7314300c4", func := "loop.example/versioncontrol/laws.FnExactPickOf", spec := "fnExactPickOf", inPlace := ["internal/bytealg.CountString", "internal/bytealg.IndexByteString", "internal/bytealg.IndexString", "slices.overlaps[loop.example/versioncontrol/impl.Head]"], unfollowed := true, recurses := true, named := ["unicode/utf8.first", "unicode/utf8.acceptRanges", "internal/bytealg.MaxLen"], apart := false, laid := [("unicode/utf8.acceptRanges", laid_unicode_utf8_acceptRanges), ("unicode/utf8.first", laid_unicode_utf8_first)] }
def FnExactPickOfSaid : Prop := fnExactPickOfRow.holds Tryz.pinned (OpenSpec.ofChange fnExactPickOfSpec)

/-- ITS FALSE NEIGHBOUR: 'it returns false'. Refute it at one input. -/
def fnExactPickOfWrong : ChangeSpec := { name := "fnExactPickOf", fn := fun _ => fun
  | [d1, d2, d3, d4] => { results := [.lit (.bool false)], args := [d1, d2, d3, d4] }
  | _ => none }
def FnExactPickOfWrongFalsely : Prop := fnExactPickOfRow.holds Tryz.pinned (OpenSpec.ofChange fnExactPickOfWrong)

/-- 'laws.FnExactUniteInto': WHATEVER THE INPUT: true; the input reads as it did. -/
def fnExactUniteIntoSpec : ChangeSpec := { name := "fnExactUniteInto", fn := fun _ => fun
  | [d1, d2, d3, d4] => { results := [.lit (.bool true)], args := [d1, d2, d3, d4] }
  | _ => none }
def fnExactUniteIntoRow : OpenClaim := { program := "ytiahldhbknpmiaagreatdoor", sum := "8c69d7c44c42ebf5743281c61cbb0f625d51cc40838e05e12f05f8d7314300c4", func := "loop.example/versioncontrol/laws.FnExactUniteInto", spec := "fnExactUniteInto", inPlace := ["internal/bytealg.CountString", "internal/bytealg.IndexByteString", "internal/bytealg.IndexString", "slices.overlaps[loop.example/versioncontrol/impl.Head]"], unfollowed := true, recurses := true, named := ["unicode/utf8.first", "unicode/utf8.acceptRanges", "internal/bytealg.MaxLen"], apart := false, laid := [("unicode/utf8.acceptRanges", laid_unicode_utf8_acceptRanges), ("unicode/utf8.first", laid_unicode_utf8_first)] }
def FnExactUniteIntoSaid : Prop := fnExactUniteIntoRow.holds Tryz.pinned (OpenSpec.ofChange fnExactUniteIntoSpec)

/-- ITS FALSE NEIGHBOUR: 'it returns false'. Refute it at one input. -/
def fnExactUniteIntoWrong : ChangeSpec := { name := "fnExactUniteInto", fn := fun _ => fun
  | [d1, d2, d3, d4] => { results := [.lit (.bool false)], args := [d1, d2, d3, d4] }
  | _ => none }
def FnExactUniteIntoWrongFalsely : Prop := fnExactUniteIntoRow.holds Tryz.pinned (OpenSpec.ofChange fnExactUniteIntoWrong)

/-- 'laws.FnExactPickOnto': WHATEVER THE INPUT: true; the input reads as it did. -/
def fnExactPickOntoSpec : ChangeSpec := { name := "fnExactPickOnto", fn := fun _ => fun
  | [d1, d2, d3] => { results := [.lit (.bool true)], args := [d1, d2, d3] }
  | _ => none }
def fnExactPickOntoRow : OpenClaim := { program := "ytiahldhbknpmiaagreatdoor", sum := "8c69d7c44c42ebf5743281c61cbb0f625d51cc40838e05e12f05f8d7314300c4", func := "loop.example/versioncontrol/laws.FnExactPickOnto", spec := "fnExactPickOnto", inPlace := ["internal/bytealg.CountString", "internal/bytealg.IndexByteString", "internal/bytealg.IndexString", "slices.overlaps[loop.example/versioncontrol/impl.Head]"], unfollowed := true, recurses := true, named := ["unicode/utf8.first", "unicode/utf8.acceptRanges", "internal/bytealg.MaxLen"], apart := false, laid := [("unicode/utf8.acceptRanges", laid_unicode_utf8_acceptRanges), ("unicode/utf8.first", laid_unicode_utf8_first)] }
def FnExactPickOntoSaid : Prop := fnExactPickOntoRow.holds Tryz.pinned (OpenSpec.ofChange fnExactPickOntoSpec)

/-- ITS FALSE NEIGHBOUR: 'it returns false'. Refute it at one input. -/
def fnExactPickOntoWrong : ChangeSpec := { name := "fnExactPickOnto", fn := fun _ => fun
  | [d1, d2, d3] => { results := [.lit (.bool false)], args := [d1, d2, d3] }
  | _ => none }
def FnExactPickOntoWrongFalsely : Prop := fnExactPickOntoRow.holds Tryz.pinned (OpenSpec.ofChange fnExactPickOntoWrong)

/-- 'laws.FnExactReviewNeed': WHATEVER THE INPUT: true; the input reads as it did. -/
def fnExactReviewNeedSpec : ChangeSpec := { name := "fnExactReviewNeed", fn := fun _ => fun
  | [d1, d2, d3] => { results := [.lit (.bool true)], args := [d1, d2, d3] }
  | _ => none }
def fnExactReviewNeedRow : OpenClaim := { program := "ytiahldhbknpmiaagreatdoor", sum := "8c69d7c44c42ebf5743281c61cbb0f625d51cc40838e05e12f05f8d7314300c4", func := "loop.example/versioncontrol/laws.FnExactReviewNeed", spec := "fnExactReviewNeed", inPlace := ["internal/bytealg.CountString", "internal/bytealg.IndexByteString", "internal/bytealg.IndexString"], recurses := true, named := ["unicode/utf8.first", "unicode/utf8.acceptRanges", "internal/bytealg.MaxLen"], apart := false, laid := [("unicode/utf8.acceptRanges", laid_unicode_utf8_acceptRanges), ("unicode/utf8.first", laid_unicode_utf8_first)] }
def FnExactReviewNeedSaid : Prop := fnExactReviewNeedRow.holds Tryz.pinned (OpenSpec.ofChange fnExactReviewNeedSpec)

/-- ITS FALSE NEIGHBOUR: 'it returns false'. Refute it at one input. -/
def fnExactReviewNeedWrong : ChangeSpec := { name := "fnExactReviewNeed", fn := fun _ => fun
  | [d1, d2, d3] => { results := [.lit (.bool false)], args := [d1, d2, d3] }
  | _ => none }
def FnExactReviewNeedWrongFalsely : Prop := fnExactReviewNeedRow.holds Tryz.pinned (OpenSpec.ofChange fnExactReviewNeedWrong)

/-- 'laws.FnPickBack': WHATEVER THE INPUT: true; the input reads as it did. -/
def fnPickBackSpec : ChangeSpec := { name := "fnPickBack", fn := fun _ => fun
  | [d] => { results := [.lit (.bool true)], args := [d] }
  | _ => none }
def fnPickBackRow : OpenClaim := { program := "ytiahldhbknpmiaagreatdoor", sum := "8c69d7c44c42ebf5743281c61cbb0f625d51cc40838e05e12f05f8d7314300c4", func := "loop.example/versioncontrol/laws.FnPickBack", spec := "fnPickBack", inPlace := ["internal/bytealg.CountString", "internal/bytealg.IndexByteString", "internal/bytealg.IndexString", "slices.overlaps[loop.example/versioncontrol/impl.Head]"], unfollowed := true, recurses := true, named := ["unicode/utf8.first", "unicode/utf8.acceptRanges", "internal/bytealg.MaxLen"], apart := false, laid := [("unicode/utf8.acceptRanges", laid_unicode_utf8_acceptRanges), ("unicode/utf8.first", laid_unicode_utf8_first)] }
def FnPickBackSaid : Prop := fnPickBackRow.holds Tryz.pinned (OpenSpec.ofChange fnPickBackSpec)

/-- ITS FALSE NEIGHBOUR: 'it returns false'. Refute it at one input. -/
def fnPickBackWrong : ChangeSpec := { name := "fnPickBack", fn := fun _ => fun
  | [d] => { results := [.lit (.bool false)], args := [d] }
  | _ => none }
def FnPickBackWrongFalsely : Prop := fnPickBackRow.holds Tryz.pinned (OpenSpec.ofChange fnPickBackWrong)

/-- 'laws.FnPickOf': WHATEVER THE INPUT: true; the input reads as it did. -/
def fnPickOfSpec : ChangeSpec := { name := "fnPickOf", fn := fun _ => fun
  | [d] => { results := [.lit (.bool true)], args := [d] }
  | _ => none }
def fnPickOfRow : OpenClaim := { program := "ytiahldhbknpmiaagreatdoor", sum := "8c69d7c44c42ebf5743281c61cbb0f625d51cc40838e05e12f05f8d7314300c4", func := "loop.example/versioncontrol/laws.FnPickOf", spec := "fnPickOf", inPlace := ["internal/bytealg.CountString", "internal/bytealg.IndexByteString", "internal/bytealg.IndexString", "slices.overlaps[loop.example/versioncontrol/impl.Head]"], unfollowed := true, recurses := true, named := ["unicode/utf8.first", "unicode/utf8.acceptRanges", "internal/bytealg.MaxLen"], apart := false, laid := [("unicode/utf8.acceptRanges", laid_unicode_utf8_acceptRanges), ("unicode/utf8.first", laid_unicode_utf8_first)] }
def FnPickOfSaid : Prop := fnPickOfRow.holds Tryz.pinned (OpenSpec.ofChange fnPickOfSpec)

/-- ITS FALSE NEIGHBOUR: 'it returns false'. Refute it at one input. -/
def fnPickOfWrong : ChangeSpec := { name := "fnPickOf", fn := fun _ => fun
  | [d] => { results := [.lit (.bool false)], args := [d] }
  | _ => none }
def FnPickOfWrongFalsely : Prop := fnPickOfRow.holds Tryz.pinned (OpenSpec.ofChange fnPickOfWrong)

/-- 'laws.FnPickTwo': WHATEVER THE INPUT: true; the input reads as it did. -/
def fnPickTwoSpec : ChangeSpec := { name := "fnPickTwo", fn := fun _ => fun
  | [d] => { results := [.lit (.bool true)], args := [d] }
  | _ => none }
def fnPickTwoRow : OpenClaim := { program := "ytiahldhbknpmiaagreatdoor", sum := "8c69d7c44c42ebf5743281c61cbb0f625d51cc40838e05e12f05f8d7314300c4", func := "loop.example/versioncontrol/laws.FnPickTwo", spec := "fnPickTwo", inPlace := ["internal/bytealg.CountString", "internal/bytealg.IndexByteString", "internal/bytealg.IndexString", "slices.overlaps[loop.example/versioncontrol/impl.Head]"], unfollowed := true, recurses := true, named := ["unicode/utf8.first", "unicode/utf8.acceptRanges", "internal/bytealg.MaxLen"], apart := false, laid := [("unicode/utf8.acceptRanges", laid_unicode_utf8_acceptRanges), ("unicode/utf8.first", laid_unicode_utf8_first)] }
def FnPickTwoSaid : Prop := fnPickTwoRow.holds Tryz.pinned (OpenSpec.ofChange fnPickTwoSpec)

/-- ITS FALSE NEIGHBOUR: 'it returns false'. Refute it at one input. -/
def fnPickTwoWrong : ChangeSpec := { name := "fnPickTwo", fn := fun _ => fun
  | [d] => { results := [.lit (.bool false)], args := [d] }
  | _ => none }
def FnPickTwoWrongFalsely : Prop := fnPickTwoRow.holds Tryz.pinned (OpenSpec.ofChange fnPickTwoWrong)

/-- 'laws.FnUniteTree': WHATEVER THE INPUT: true; the input reads as it did. -/
def fnUniteTreeSpec : ChangeSpec := { name := "fnUniteTree", fn := fun _ => fun
  | [d] => { results := [.lit (.bool true)], args := [d] }
  | _ => none }
def fnUniteTreeRow : OpenClaim := { program := "ytiahldhbknpmiaagreatdoor", sum := "8c69d7c44c42ebf5743281c61cbb0f625d51cc40838e05e12f05f8d7314300c4", func := "loop.example/versioncontrol/laws.FnUniteTree", spec := "fnUniteTree", inPlace := ["internal/bytealg.CountString", "internal/bytealg.IndexByteString", "internal/bytealg.IndexString"], unfollowed := true, recurses := true, named := ["unicode/utf8.first", "unicode/utf8.acceptRanges", "internal/bytealg.MaxLen"], apart := false, laid := [("unicode/utf8.acceptRanges", laid_unicode_utf8_acceptRanges), ("unicode/utf8.first", laid_unicode_utf8_first)] }
def FnUniteTreeSaid : Prop := fnUniteTreeRow.holds Tryz.pinned (OpenSpec.ofChange fnUniteTreeSpec)

/-- ITS FALSE NEIGHBOUR: 'it returns false'. Refute it at one input. -/
def fnUniteTreeWrong : ChangeSpec := { name := "fnUniteTree", fn := fun _ => fun
  | [d] => { results := [.lit (.bool false)], args := [d] }
  | _ => none }
def FnUniteTreeWrongFalsely : Prop := fnUniteTreeRow.holds Tryz.pinned (OpenSpec.ofChange fnUniteTreeWrong)

/-- 'laws.FnLogLeft': WHATEVER THE INPUT: true; the input reads as it did. -/
def fnLogLeftSpec : ChangeSpec := { name := "fnLogLeft", fn := fun _ => fun
  | [d1, d2] => { results := [.lit (.bool true)], args := [d1, d2] }
  | _ => none }
def fnLogLeftRow : OpenClaim := { program := "ytiahldhbknpmiaagreatdoor", sum := "8c69d7c44c42ebf5743281c61cbb0f625d51cc40838e05e12f05f8d7314300c4", func := "loop.example/versioncontrol/laws.FnLogLeft", spec := "fnLogLeft", inPlace := ["internal/bytealg.CountString", "internal/bytealg.IndexByteString", "internal/bytealg.IndexString"], named := ["unicode/utf8.first", "unicode/utf8.acceptRanges", "internal/bytealg.MaxLen"], apart := false, laid := [("unicode/utf8.acceptRanges", laid_unicode_utf8_acceptRanges), ("unicode/utf8.first", laid_unicode_utf8_first)] }
def FnLogLeftSaid : Prop := fnLogLeftRow.holds Tryz.pinned (OpenSpec.ofChange fnLogLeftSpec)

/-- ITS FALSE NEIGHBOUR: 'it returns false'. Refute it at one input. -/
def fnLogLeftWrong : ChangeSpec := { name := "fnLogLeft", fn := fun _ => fun
  | [d1, d2] => { results := [.lit (.bool false)], args := [d1, d2] }
  | _ => none }
def FnLogLeftWrongFalsely : Prop := fnLogLeftRow.holds Tryz.pinned (OpenSpec.ofChange fnLogLeftWrong)

/-- 'laws.FnLogNext': WHATEVER THE INPUT: true; the input reads as it did. -/
def fnLogNextSpec : ChangeSpec := { name := "fnLogNext", fn := fun _ => fun
  | [d] => { results := [.lit (.bool true)], args := [d] }
  | _ => none }
def fnLogNextRow : OpenClaim := { program := "ytiahldhbknpmiaagreatdoor", sum := "8c69d7c44c42ebf5743281c61cbb0f625d51cc40838e05e12f05f8d7314300c4", func := "loop.example/versioncontrol/laws.FnLogNext", spec := "fnLogNext", inPlace := ["internal/bytealg.CountString", "internal/bytealg.IndexByteString", "internal/bytealg.IndexString"], named := ["unicode/utf8.first", "unicode/utf8.acceptRanges", "internal/bytealg.MaxLen"], apart := false, laid := [("unicode/utf8.acceptRanges", laid_unicode_utf8_acceptRanges), ("unicode/utf8.first", laid_unicode_utf8_first)] }
def FnLogNextSaid : Prop := fnLogNextRow.holds Tryz.pinned (OpenSpec.ofChange fnLogNextSpec)

/-- ITS FALSE NEIGHBOUR: 'it returns false'. Refute it at one input. -/
def fnLogNextWrong : ChangeSpec := { name := "fnLogNext", fn := fun _ => fun
  | [d] => { results := [.lit (.bool false)], args := [d] }
  | _ => none }
def FnLogNextWrongFalsely : Prop := fnLogNextRow.holds Tryz.pinned (OpenSpec.ofChange fnLogNextWrong)

/-- 'laws.FnLogWho': WHATEVER THE INPUT: true; the input reads as it did. -/
def fnLogWhoSpec : ChangeSpec := { name := "fnLogWho", fn := fun _ => fun
  | [d] => { results := [.lit (.bool true)], args := [d] }
  | _ => none }
def fnLogWhoRow : OpenClaim := { program := "ytiahldhbknpmiaagreatdoor", sum := "8c69d7c44c42ebf5743281c61cbb0f625d51cc40838e05e12f05f8d7314300c4", func := "loop.example/versioncontrol/laws.FnLogWho", spec := "fnLogWho", inPlace := ["internal/bytealg.CountString", "internal/bytealg.IndexByteString", "internal/bytealg.IndexString"], unfollowed := true, recurses := true, named := ["unicode/utf8.first", "unicode/utf8.acceptRanges", "internal/bytealg.MaxLen"], apart := false, laid := [("unicode/utf8.acceptRanges", laid_unicode_utf8_acceptRanges), ("unicode/utf8.first", laid_unicode_utf8_first)] }
def FnLogWhoSaid : Prop := fnLogWhoRow.holds Tryz.pinned (OpenSpec.ofChange fnLogWhoSpec)

/-- ITS FALSE NEIGHBOUR: 'it returns false'. Refute it at one input. -/
def fnLogWhoWrong : ChangeSpec := { name := "fnLogWho", fn := fun _ => fun
  | [d] => { results := [.lit (.bool false)], args := [d] }
  | _ => none }
def FnLogWhoWrongFalsely : Prop := fnLogWhoRow.holds Tryz.pinned (OpenSpec.ofChange fnLogWhoWrong)

/- THE SECOND FORM. 'bulk': how many values and letters a reading holds, each counted each time it is reached (what is shared counts as often as it is met; a slice's spare places count too). A statement '..UptoSaid' is the law's where the arguments, and the package variables that the reading takes, are together of bulk at most 1048576: NARROWER than '..Said'. Prove '..Said' where nothing that the law and all that it calls make is longer than what came in: it says more and counts as full. Else prove '..UptoSaid'. A law counts once. -/
mutual
def uptoBulk {H : Type} : DataW H → Nat
  | .lit (.string bytes) => bytes.length + 1
  | .lit _ => 1
  | .nil => 1
  | .ptr d => uptoBulk d + 1
  | .slice elems spare => uptoBulkAll elems + uptoBulkAll spare + 1
  | .agg parts => uptoBulkAll parts + 1
  | .iface _ d => uptoBulk d + 1
  | .map entries => uptoBulkEntries entries + 1
  | .held _ => 1
def uptoBulkAll {H : Type} : List (DataW H) → Nat
  | [] => 0
  | d :: r => uptoBulk d + uptoBulkAll r
def uptoBulkEntries {H : Type} : List (Lit × DataW H) → Nat
  | [] => 0
  | x :: r => uptoBulkEntry x + uptoBulkEntries r
def uptoBulkEntry {H : Type} : Lit × DataW H → Nat
  | (.string bytes, d) => bytes.length + uptoBulk d + 1
  | (_, d) => uptoBulk d + 1
 end
def uptoSmall : (H : Type) → List (DataW H) → Bool := fun _ ds => decide (uptoBulkAll ds ≤ 1048576)
def OpenSpec.upto (s : _root_.Go.ChangeSpec) : _root_.Go.OpenSpec := { _root_.Go.OpenSpec.ofChange s with cond := some uptoSmall }

/-- 'laws.FnExactPickBack', WHERE WHAT IT READS IS OF BULK AT MOST 1048576: true; the input reads as it did. -/
def fnExactPickBackUptoRow : OpenClaim := { program := "ytiahldhbknpmiaagreatdoor", sum := "8c69d7c44c42ebf5743281c61cbb0f625d51cc40838e05e12f05f8d7314300c4", func := "loop.example/versioncontrol/laws.FnExactPickBack", spec := "fnExactPickBack", inPlace := ["internal/bytealg.CountString", "internal/bytealg.IndexByteString", "internal/bytealg.IndexString", "slices.overlaps[loop.example/versioncontrol/impl.Head]"], unfollowed := true, recurses := true, named := ["unicode/utf8.first", "unicode/utf8.acceptRanges", "internal/bytealg.MaxLen"], apart := false, laid := [("unicode/utf8.acceptRanges", laid_unicode_utf8_acceptRanges), ("unicode/utf8.first", laid_unicode_utf8_first)], narrowed := true }
def FnExactPickBackUptoSaid : Prop := fnExactPickBackUptoRow.holds Tryz.pinned (OpenSpec.upto fnExactPickBackSpec)

/-- 'laws.FnExactPickOf', WHERE WHAT IT READS IS OF BULK AT MOST 1048576: true; the input reads as it did. -/
def fnExactPickOfUptoRow : OpenClaim := { program := "ytiahldhbknpmiaagreatdoor", sum := "8c69d7c44c42ebf5743281c61cbb0f625d51cc40838e05e12f05f8d7314300c4", func := "loop.example/versioncontrol/laws.FnExactPickOf", spec := "fnExactPickOf", inPlace := ["internal/bytealg.CountString", "internal/bytealg.IndexByteString", "internal/bytealg.IndexString", "slices.overlaps[loop.example/versioncontrol/impl.Head]"], unfollowed := true, recurses := true, named := ["unicode/utf8.first", "unicode/utf8.acceptRanges", "internal/bytealg.MaxLen"], apart := false, laid := [("unicode/utf8.acceptRanges", laid_unicode_utf8_acceptRanges), ("unicode/utf8.first", laid_unicode_utf8_first)], narrowed := true }
def FnExactPickOfUptoSaid : Prop := fnExactPickOfUptoRow.holds Tryz.pinned (OpenSpec.upto fnExactPickOfSpec)

/-- 'laws.FnExactUniteInto', WHERE WHAT IT READS IS OF BULK AT MOST 1048576: true; the input reads as it did. -/
def fnExactUniteIntoUptoRow : OpenClaim := { program := "ytiahldhbknpmiaagreatdoor", sum := "8c69d7c44c42ebf5743281c61cbb0f625d51cc40838e05e12f05f8d7314300c4", func := "loop.example/versioncontrol/laws.FnExactUniteInto", spec := "fnExactUniteInto", inPlace := ["internal/bytealg.CountString", "internal/bytealg.IndexByteString", "internal/bytealg.IndexString", "slices.overlaps[loop.example/versioncontrol/impl.Head]"], unfollowed := true, recurses := true, named := ["unicode/utf8.first", "unicode/utf8.acceptRanges", "internal/bytealg.MaxLen"], apart := false, laid := [("unicode/utf8.acceptRanges", laid_unicode_utf8_acceptRanges), ("unicode/utf8.first", laid_unicode_utf8_first)], narrowed := true }
def FnExactUniteIntoUptoSaid : Prop := fnExactUniteIntoUptoRow.holds Tryz.pinned (OpenSpec.upto fnExactUniteIntoSpec)

/-- 'laws.FnExactPickOnto', WHERE WHAT IT READS IS OF BULK AT MOST 1048576: true; the input reads as it did. -/
def fnExactPickOntoUptoRow : OpenClaim := { program := "ytiahldhbknpmiaagreatdoor", sum := "8c69d7c44c42ebf5743281c61cbb0f625d51cc40838e05e12f05f8d7314300c4", func := "loop.example/versioncontrol/laws.FnExactPickOnto", spec := "fnExactPickOnto", inPlace := ["internal/bytealg.CountString", "internal/bytealg.IndexByteString", "internal/bytealg.IndexString", "slices.overlaps[loop.example/versioncontrol/impl.Head]"], unfollowed := true, recurses := true, named := ["unicode/utf8.first", "unicode/utf8.acceptRanges", "internal/bytealg.MaxLen"], apart := false, laid := [("unicode/utf8.acceptRanges", laid_unicode_utf8_acceptRanges), ("unicode/utf8.first", laid_unicode_utf8_first)], narrowed := true }
def FnExactPickOntoUptoSaid : Prop := fnExactPickOntoUptoRow.holds Tryz.pinned (OpenSpec.upto fnExactPickOntoSpec)

/-- 'laws.FnExactReviewNeed', WHERE WHAT IT READS IS OF BULK AT MOST 1048576: true; the input reads as it did. -/
def fnExactReviewNeedUptoRow : OpenClaim := { program := "ytiahldhbknpmiaagreatdoor", sum := "8c69d7c44c42ebf5743281c61cbb0f625d51cc40838e05e12f05f8d7314300c4", func := "loop.example/versioncontrol/laws.FnExactReviewNeed", spec := "fnExactReviewNeed", inPlace := ["internal/bytealg.CountString", "internal/bytealg.IndexByteString", "internal/bytealg.IndexString"], recurses := true, named := ["unicode/utf8.first", "unicode/utf8.acceptRanges", "internal/bytealg.MaxLen"], apart := false, laid := [("unicode/utf8.acceptRanges", laid_unicode_utf8_acceptRanges), ("unicode/utf8.first", laid_unicode_utf8_first)], narrowed := true }
def FnExactReviewNeedUptoSaid : Prop := fnExactReviewNeedUptoRow.holds Tryz.pinned (OpenSpec.upto fnExactReviewNeedSpec)

/-- 'laws.FnPickBack', WHERE WHAT IT READS IS OF BULK AT MOST 1048576: true; the input reads as it did. -/
def fnPickBackUptoRow : OpenClaim := { program := "ytiahldhbknpmiaagreatdoor", sum := "8c69d7c44c42ebf5743281c61cbb0f625d51cc40838e05e12f05f8d7314300c4", func := "loop.example/versioncontrol/laws.FnPickBack", spec := "fnPickBack", inPlace := ["internal/bytealg.CountString", "internal/bytealg.IndexByteString", "internal/bytealg.IndexString", "slices.overlaps[loop.example/versioncontrol/impl.Head]"], unfollowed := true, recurses := true, named := ["unicode/utf8.first", "unicode/utf8.acceptRanges", "internal/bytealg.MaxLen"], apart := false, laid := [("unicode/utf8.acceptRanges", laid_unicode_utf8_acceptRanges), ("unicode/utf8.first", laid_unicode_utf8_first)], narrowed := true }
def FnPickBackUptoSaid : Prop := fnPickBackUptoRow.holds Tryz.pinned (OpenSpec.upto fnPickBackSpec)

/-- 'laws.FnPickOf', WHERE WHAT IT READS IS OF BULK AT MOST 1048576: true; the input reads as it did. -/
def fnPickOfUptoRow : OpenClaim := { program := "ytiahldhbknpmiaagreatdoor", sum := "8c69d7c44c42ebf5743281c61cbb0f625d51cc40838e05e12f05f8d7314300c4", func := "loop.example/versioncontrol/laws.FnPickOf", spec := "fnPickOf", inPlace := ["internal/bytealg.CountString", "internal/bytealg.IndexByteString", "internal/bytealg.IndexString", "slices.overlaps[loop.example/versioncontrol/impl.Head]"], unfollowed := true, recurses := true, named := ["unicode/utf8.first", "unicode/utf8.acceptRanges", "internal/bytealg.MaxLen"], apart := false, laid := [("unicode/utf8.acceptRanges", laid_unicode_utf8_acceptRanges), ("unicode/utf8.first", laid_unicode_utf8_first)], narrowed := true }
def FnPickOfUptoSaid : Prop := fnPickOfUptoRow.holds Tryz.pinned (OpenSpec.upto fnPickOfSpec)

/-- 'laws.FnPickTwo', WHERE WHAT IT READS IS OF BULK AT MOST 1048576: true; the input reads as it did. -/
def fnPickTwoUptoRow : OpenClaim := { program := "ytiahldhbknpmiaagreatdoor", sum := "8c69d7c44c42ebf5743281c61cbb0f625d51cc40838e05e12f05f8d7314300c4", func := "loop.example/versioncontrol/laws.FnPickTwo", spec := "fnPickTwo", inPlace := ["internal/bytealg.CountString", "internal/bytealg.IndexByteString", "internal/bytealg.IndexString", "slices.overlaps[loop.example/versioncontrol/impl.Head]"], unfollowed := true, recurses := true, named := ["unicode/utf8.first", "unicode/utf8.acceptRanges", "internal/bytealg.MaxLen"], apart := false, laid := [("unicode/utf8.acceptRanges", laid_unicode_utf8_acceptRanges), ("unicode/utf8.first", laid_unicode_utf8_first)], narrowed := true }
def FnPickTwoUptoSaid : Prop := fnPickTwoUptoRow.holds Tryz.pinned (OpenSpec.upto fnPickTwoSpec)

/-- 'laws.FnUniteTree', WHERE WHAT IT READS IS OF BULK AT MOST 1048576: true; the input reads as it did. -/
def fnUniteTreeUptoRow : OpenClaim := { program := "ytiahldhbknpmiaagreatdoor", sum := "8c69d7c44c42ebf5743281c61cbb0f625d51cc40838e05e12f05f8d7314300c4", func := "loop.example/versioncontrol/laws.FnUniteTree", spec := "fnUniteTree", inPlace := ["internal/bytealg.CountString", "internal/bytealg.IndexByteString", "internal/bytealg.IndexString"], unfollowed := true, recurses := true, named := ["unicode/utf8.first", "unicode/utf8.acceptRanges", "internal/bytealg.MaxLen"], apart := false, laid := [("unicode/utf8.acceptRanges", laid_unicode_utf8_acceptRanges), ("unicode/utf8.first", laid_unicode_utf8_first)], narrowed := true }
def FnUniteTreeUptoSaid : Prop := fnUniteTreeUptoRow.holds Tryz.pinned (OpenSpec.upto fnUniteTreeSpec)

/-- 'laws.FnLogLeft', WHERE WHAT IT READS IS OF BULK AT MOST 1048576: true; the input reads as it did. -/
def fnLogLeftUptoRow : OpenClaim := { program := "ytiahldhbknpmiaagreatdoor", sum := "8c69d7c44c42ebf5743281c61cbb0f625d51cc40838e05e12f05f8d7314300c4", func := "loop.example/versioncontrol/laws.FnLogLeft", spec := "fnLogLeft", inPlace := ["internal/bytealg.CountString", "internal/bytealg.IndexByteString", "internal/bytealg.IndexString"], named := ["unicode/utf8.first", "unicode/utf8.acceptRanges", "internal/bytealg.MaxLen"], apart := false, laid := [("unicode/utf8.acceptRanges", laid_unicode_utf8_acceptRanges), ("unicode/utf8.first", laid_unicode_utf8_first)], narrowed := true }
def FnLogLeftUptoSaid : Prop := fnLogLeftUptoRow.holds Tryz.pinned (OpenSpec.upto fnLogLeftSpec)

/-- 'laws.FnLogNext', WHERE WHAT IT READS IS OF BULK AT MOST 1048576: true; the input reads as it did. -/
def fnLogNextUptoRow : OpenClaim := { program := "ytiahldhbknpmiaagreatdoor", sum := "8c69d7c44c42ebf5743281c61cbb0f625d51cc40838e05e12f05f8d7314300c4", func := "loop.example/versioncontrol/laws.FnLogNext", spec := "fnLogNext", inPlace := ["internal/bytealg.CountString", "internal/bytealg.IndexByteString", "internal/bytealg.IndexString"], named := ["unicode/utf8.first", "unicode/utf8.acceptRanges", "internal/bytealg.MaxLen"], apart := false, laid := [("unicode/utf8.acceptRanges", laid_unicode_utf8_acceptRanges), ("unicode/utf8.first", laid_unicode_utf8_first)], narrowed := true }
def FnLogNextUptoSaid : Prop := fnLogNextUptoRow.holds Tryz.pinned (OpenSpec.upto fnLogNextSpec)

/-- 'laws.FnLogWho', WHERE WHAT IT READS IS OF BULK AT MOST 1048576: true; the input reads as it did. -/
def fnLogWhoUptoRow : OpenClaim := { program := "ytiahldhbknpmiaagreatdoor", sum := "8c69d7c44c42ebf5743281c61cbb0f625d51cc40838e05e12f05f8d7314300c4", func := "loop.example/versioncontrol/laws.FnLogWho", spec := "fnLogWho", inPlace := ["internal/bytealg.CountString", "internal/bytealg.IndexByteString", "internal/bytealg.IndexString"], unfollowed := true, recurses := true, named := ["unicode/utf8.first", "unicode/utf8.acceptRanges", "internal/bytealg.MaxLen"], apart := false, laid := [("unicode/utf8.acceptRanges", laid_unicode_utf8_acceptRanges), ("unicode/utf8.first", laid_unicode_utf8_first)], narrowed := true }
def FnLogWhoUptoSaid : Prop := fnLogWhoUptoRow.holds Tryz.pinned (OpenSpec.upto fnLogWhoSpec)

end Rows
end Go.Proofs.YtiahldhbknpmiaaGreatDoor
