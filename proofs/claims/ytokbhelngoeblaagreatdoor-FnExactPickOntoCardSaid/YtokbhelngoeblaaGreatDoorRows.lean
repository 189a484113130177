/-
  NARROWER THAN 'FOR EVERY INPUT', by the rows' own cells (each row's printed sentence says how): FnExactPickOnto: laid · FnUniteTree: laid · FnExactReviewNeed: laid · FnExactReviewLand: laid · FnReviewFree: laid · FnPickOf: laid · FnPickBack: laid · FnPickTwo: laid.
  DERIVED. THE GIVEN ROWS OF THIS SEAT. 8 by the template 'for every input the law returns true; each argument reads behind the call as it read before'; 0 by the template 'total and deterministic' (their statements: YtokbhelngoeblaaGreatDoorTotals.lean).
  GIVEN WITH THE SEED: the statements are not yours to turn. If you find one false, say at which input.
  Laid BY PROGRAM, IN A SANDBOX (cutbox-rows.mjs): the forced cells as the released guide's own fill.sh prints them over the translation 9ef5ed6b95885d7a… (all of the seat's roots in one cut). By AI agents, Wed Nov 11 2026. No macro, syntax, notation, axiom, sorry.
-/
import Derived.Test.YtokbhelngoeblaaGreatDoorChecked
import GoSem.PinnedTables
import GoSem.Claim
import GoSem.ClaimJoined
import GoSem.ClaimMapViews
import Derived.JoinedTies
import Derived.KernelRfl
namespace Go.Proofs.YtokbhelngoeblaaGreatDoor
/- THE CELL 'sum', in the pinned program and in every row, IS THE sha256 OF THE DUMP (.gsa) THAT YtokbhelngoeblaaGreatDoorProg.lean LOADS. Nothing in Lean hashes anything: it is a label: what it is worth is what the hold of that sum in a sandbox is worth. -/
noncomputable def Tryz.pinned : Pinned := { name := "ytokbhelngoeblaagreatdoor", sum := "9ef5ed6b95885d7a80744db67008bd09902f841a1e7c53d457ebafabf4cb13db", checked := Tryz.checked }
namespace Rows
def none {H : Type} : Left H := { results := [], args := [] }

/- WHAT THE LISTED PACKAGE-LEVEL VARIABLES READ AS WHEN THE CALL BEGINS. Each datum BY PROGRAM (the guide's laid-datum.mjs) off the statement by which the dump's own 'gosem.cut.vars' lays the variable. In a bare row this is a premise. The card (YtokbhelngoeblaaGreatDoorCards.lean) ties it to the program's text. -/
def laid_unicode_utf8_acceptRanges {H : Type} : DataW H := .agg [.agg [.lit (.int .u8 128), .lit (.int .u8 191)], .agg [.lit (.int .u8 160), .lit (.int .u8 191)], .agg [.lit (.int .u8 128), .lit (.int .u8 159)], .agg [.lit (.int .u8 144), .lit (.int .u8 191)], .agg [.lit (.int .u8 128), .lit (.int .u8 143)], .agg [.lit (.int .u8 0), .lit (.int .u8 0)], .agg [.lit (.int .u8 0), .lit (.int .u8 0)], .agg [.lit (.int .u8 0), .lit (.int .u8 0)], .agg [.lit (.int .u8 0), .lit (.int .u8 0)], .agg [.lit (.int .u8 0), .lit (.int .u8 0)], .agg [.lit (.int .u8 0), .lit (.int .u8 0)], .agg [.lit (.int .u8 0), .lit (.int .u8 0)], .agg [.lit (.int .u8 0), .lit (.int .u8 0)], .agg [.lit (.int .u8 0), .lit (.int .u8 0)], .agg [.lit (.int .u8 0), .lit (.int .u8 0)], .agg [.lit (.int .u8 0), .lit (.int .u8 0)]]
/-- One of Go's own tables, pinned by name: the form's constant. -/
def laid_unicode_utf8_first : DataW Unit := Go.Pinned.utf8First

/-- 'laws.FnExactPickOnto': WHATEVER THE INPUT: true; the input reads as it did. -/
def fnExactPickOntoSpec : ChangeSpec := { name := "fnExactPickOnto", fn := fun _ => fun
  | [d1, d2, d3] => { results := [.lit (.bool true)], args := [d1, d2, d3] }
  | _ => none }
def fnExactPickOntoRow : OpenClaim := { program := "ytokbhelngoeblaagreatdoor", sum := "9ef5ed6b95885d7a80744db67008bd09902f841a1e7c53d457ebafabf4cb13db", func := "loop.example/versioncontrol/laws.FnExactPickOnto", spec := "fnExactPickOnto", inPlace := ["internal/bytealg.CountString", "internal/bytealg.IndexByteString", "internal/bytealg.IndexString", "slices.overlaps[loop.example/versioncontrol/impl.Head]"], unfollowed := true, recurses := true, named := ["unicode/utf8.first", "unicode/utf8.acceptRanges", "internal/bytealg.MaxLen"], apart := false, laid := [("unicode/utf8.acceptRanges", laid_unicode_utf8_acceptRanges), ("unicode/utf8.first", laid_unicode_utf8_first)] }
def FnExactPickOntoSaid : Prop := fnExactPickOntoRow.holds Tryz.pinned (OpenSpec.ofChange fnExactPickOntoSpec)

/-- ITS FALSE NEIGHBOUR: 'it returns false'. Refute it at one input. -/
def fnExactPickOntoWrong : ChangeSpec := { name := "fnExactPickOnto", fn := fun _ => fun
  | [d1, d2, d3] => { results := [.lit (.bool false)], args := [d1, d2, d3] }
  | _ => none }
def FnExactPickOntoWrongFalsely : Prop := fnExactPickOntoRow.holds Tryz.pinned (OpenSpec.ofChange fnExactPickOntoWrong)

/-- 'laws.FnUniteTree': WHATEVER THE INPUT: true; the input reads as it did. -/
def fnUniteTreeSpec : ChangeSpec := { name := "fnUniteTree", fn := fun _ => fun
  | [d] => { results := [.lit (.bool true)], args := [d] }
  | _ => none }
def fnUniteTreeRow : OpenClaim := { program := "ytokbhelngoeblaagreatdoor", sum := "9ef5ed6b95885d7a80744db67008bd09902f841a1e7c53d457ebafabf4cb13db", func := "loop.example/versioncontrol/laws.FnUniteTree", spec := "fnUniteTree", inPlace := ["internal/bytealg.CountString", "internal/bytealg.IndexByteString", "internal/bytealg.IndexString"], unfollowed := true, recurses := true, named := ["unicode/utf8.first", "unicode/utf8.acceptRanges", "internal/bytealg.MaxLen"], apart := false, laid := [("unicode/utf8.acceptRanges", laid_unicode_utf8_acceptRanges), ("unicode/utf8.first", laid_unicode_utf8_first)] }
def FnUniteTreeSaid : Prop := fnUniteTreeRow.holds Tryz.pinned (OpenSpec.ofChange fnUniteTreeSpec)

/-- ITS FALSE NEIGHBOUR: 'it returns false'. Refute it at one input. -/
def fnUniteTreeWrong : ChangeSpec := { name := "fnUniteTree", fn := fun _ => fun
  | [d] => { results := [.lit (.bool false)], args := [d] }
  | _ => none }
def FnUniteTreeWrongFalsely : Prop := fnUniteTreeRow.holds Tryz.pinned (OpenSpec.ofChange fnUniteTreeWrong)

/-- 'laws.FnExactReviewNeed': WHATEVER THE INPUT: true; the input reads as it did. -/
def fnExactReviewNeedSpec : ChangeSpec := { name := "fnExactReviewNeed", fn := fun _ => fun
  | [d1, d2, d3] => { results := [.lit (.bool true)], args := [d1, d2, d3] }
  | _ => none }
def fnExactReviewNeedRow : OpenClaim := { program := "ytokbhelngoeblaagreatdoor", sum := "9ef5ed6b95885d7a80744db67008bd09902f841a1e7c53d457ebafabf4cb13db", func := "loop.example/versioncontrol/laws.FnExactReviewNeed", spec := "fnExactReviewNeed", inPlace := ["internal/bytealg.CountString", "internal/bytealg.IndexByteString", "internal/bytealg.IndexString"], recurses := true, named := ["unicode/utf8.first", "unicode/utf8.acceptRanges", "internal/bytealg.MaxLen"], apart := false, laid := [("unicode/utf8.acceptRanges", laid_unicode_utf8_acceptRanges), ("unicode/utf8.first", laid_unicode_utf8_first)] }
def FnExactReviewNeedSaid : Prop := fnExactReviewNeedRow.holds Tryz.pinned (OpenSpec.ofChange fnExactReviewNeedSpec)

/-- ITS FALSE NEIGHBOUR: 'it returns false'. Refute it at one input. -/
def fnExactReviewNeedWrong : ChangeSpec := { name := "fnExactReviewNeed", fn := fun _ => fun
  | [d1, d2, d3] => { results := [.lit (.bool false)], args := [d1, d2, d3] }
  | _ => none }
def FnExactReviewNeedWrongFalsely : Prop := fnExactReviewNeedRow.holds Tryz.pinned (OpenSpec.ofChange fnExactReviewNeedWrong)

/-- 'laws.FnExactReviewLand': WHATEVER THE INPUT: true; the input reads as it did. -/
def fnExactReviewLandSpec : ChangeSpec := { name := "fnExactReviewLand", fn := fun _ => fun
  | [d1, d2, d3] => { results := [.lit (.bool true)], args := [d1, d2, d3] }
  | _ => none }
def fnExactReviewLandRow : OpenClaim := { program := "ytokbhelngoeblaagreatdoor", sum := "9ef5ed6b95885d7a80744db67008bd09902f841a1e7c53d457ebafabf4cb13db", func := "loop.example/versioncontrol/laws.FnExactReviewLand", spec := "fnExactReviewLand", inPlace := ["internal/bytealg.CountString", "internal/bytealg.IndexByteString", "internal/bytealg.IndexString", "slices.overlaps[loop.example/versioncontrol/impl.Head]"], unfollowed := true, recurses := true, named := ["unicode/utf8.first", "unicode/utf8.acceptRanges", "internal/bytealg.MaxLen"], apart := false, laid := [("unicode/utf8.acceptRanges", laid_unicode_utf8_acceptRanges), ("unicode/utf8.first", laid_unicode_utf8_first)] }
def FnExactReviewLandSaid : Prop := fnExactReviewLandRow.holds Tryz.pinned (OpenSpec.ofChange fnExactReviewLandSpec)

/-- ITS FALSE NEIGHBOUR: 'it returns false'. Refute it at one input. -/
def fnExactReviewLandWrong : ChangeSpec := { name := "fnExactReviewLand", fn := fun _ => fun
  | [d1, d2, d3] => { results := [.lit (.bool false)], args := [d1, d2, d3] }
  | _ => none }
def FnExactReviewLandWrongFalsely : Prop := fnExactReviewLandRow.holds Tryz.pinned (OpenSpec.ofChange fnExactReviewLandWrong)

/-- 'laws.FnReviewFree': WHATEVER THE INPUT: true; the input reads as it did. -/
def fnReviewFreeSpec : ChangeSpec := { name := "fnReviewFree", fn := fun _ => fun
  | [d] => { results := [.lit (.bool true)], args := [d] }
  | _ => none }
def fnReviewFreeRow : OpenClaim := { program := "ytokbhelngoeblaagreatdoor", sum := "9ef5ed6b95885d7a80744db67008bd09902f841a1e7c53d457ebafabf4cb13db", func := "loop.example/versioncontrol/laws.FnReviewFree", spec := "fnReviewFree", inPlace := ["internal/bytealg.CountString", "internal/bytealg.IndexByteString", "internal/bytealg.IndexString"], recurses := true, named := ["unicode/utf8.first", "unicode/utf8.acceptRanges", "internal/bytealg.MaxLen"], apart := false, laid := [("unicode/utf8.acceptRanges", laid_unicode_utf8_acceptRanges), ("unicode/utf8.first", laid_unicode_utf8_first)] }
def FnReviewFreeSaid : Prop := fnReviewFreeRow.holds Tryz.pinned (OpenSpec.ofChange fnReviewFreeSpec)

/-- ITS FALSE NEIGHBOUR: 'it returns false'. Refute it at one input. -/
def fnReviewFreeWrong : ChangeSpec := { name := "fnReviewFree", fn := fun _ => fun
  | [d] => { results := [.lit (.bool false)], args := [d] }
  | _ => none }
def FnReviewFreeWrongFalsely : Prop := fnReviewFreeRow.holds Tryz.pinned (OpenSpec.ofChange fnReviewFreeWrong)

/-- 'laws.FnPickOf': WHATEVER THE INPUT: true; the input reads as it did. -/
def fnPickOfSpec : ChangeSpec := { name := "fnPickOf", fn := fun _ => fun
  | [d] => { results := [.lit (.bool true)], args := [d] }
  | _ => none }
def fnPickOfRow : OpenClaim := { program := "ytokbhelngoeblaagreatdoor", sum := "9ef5ed6b95885d7a80744db67008bd09902f841a1e7c53d457ebafabf4cb13db", func := "loop.example/versioncontrol/laws.FnPickOf", spec := "fnPickOf", inPlace := ["internal/bytealg.CountString", "internal/bytealg.IndexByteString", "internal/bytealg.IndexString", "slices.overlaps[loop.example/versioncontrol/impl.Head]"], unfollowed := true, recurses := true, named := ["unicode/utf8.first", "unicode/utf8.acceptRanges", "internal/bytealg.MaxLen"], apart := false, laid := [("unicode/utf8.acceptRanges", laid_unicode_utf8_acceptRanges), ("unicode/utf8.first", laid_unicode_utf8_first)] }
def FnPickOfSaid : Prop := fnPickOfRow.holds Tryz.pinned (OpenSpec.ofChange fnPickOfSpec)

/-- ITS FALSE NEIGHBOUR: 'it returns false'. Refute it at one input. -/
def fnPickOfWrong : ChangeSpec := { name := "fnPickOf", fn := fun _ => fun
  | [d] => { results := [.lit (.bool false)], args := [d] }
  | _ => none }
def FnPickOfWrongFalsely : Prop := fnPickOfRow.holds Tryz.pinned (OpenSpec.ofChange fnPickOfWrong)

/-- 'laws.FnPickBack': WHATEVER THE INPUT: true; the input reads as it did. -/
def fnPickBackSpec : ChangeSpec := { name := "fnPickBack", fn := fun _ => fun
  | [d] => { results := [.lit (.bool true)], args := [d] }
  | _ => none }
def fnPickBackRow : OpenClaim := { program := "ytokbhelngoeblaagreatdoor", sum := "9ef5ed6b95885d7a80744db67008bd09902f841a1e7c53d457ebafabf4cb13db", func := "loop.example/versioncontrol/laws.FnPickBack", spec := "fnPickBack", inPlace := ["internal/bytealg.CountString", "internal/bytealg.IndexByteString", "internal/bytealg.IndexString", "slices.overlaps[loop.example/versioncontrol/impl.Head]"], unfollowed := true, recurses := true, named := ["unicode/utf8.first", "unicode/utf8.acceptRanges", "internal/bytealg.MaxLen"], apart := false, laid := [("unicode/utf8.acceptRanges", laid_unicode_utf8_acceptRanges), ("unicode/utf8.first", laid_unicode_utf8_first)] }
def FnPickBackSaid : Prop := fnPickBackRow.holds Tryz.pinned (OpenSpec.ofChange fnPickBackSpec)

/-- ITS FALSE NEIGHBOUR: 'it returns false'. Refute it at one input. -/
def fnPickBackWrong : ChangeSpec := { name := "fnPickBack", fn := fun _ => fun
  | [d] => { results := [.lit (.bool false)], args := [d] }
  | _ => none }
def FnPickBackWrongFalsely : Prop := fnPickBackRow.holds Tryz.pinned (OpenSpec.ofChange fnPickBackWrong)

/-- 'laws.FnPickTwo': WHATEVER THE INPUT: true; the input reads as it did. -/
def fnPickTwoSpec : ChangeSpec := { name := "fnPickTwo", fn := fun _ => fun
  | [d] => { results := [.lit (.bool true)], args := [d] }
  | _ => none }
def fnPickTwoRow : OpenClaim := { program := "ytokbhelngoeblaagreatdoor", sum := "9ef5ed6b95885d7a80744db67008bd09902f841a1e7c53d457ebafabf4cb13db", func := "loop.example/versioncontrol/laws.FnPickTwo", spec := "fnPickTwo", inPlace := ["internal/bytealg.CountString", "internal/bytealg.IndexByteString", "internal/bytealg.IndexString", "slices.overlaps[loop.example/versioncontrol/impl.Head]"], unfollowed := true, recurses := true, named := ["unicode/utf8.first", "unicode/utf8.acceptRanges", "internal/bytealg.MaxLen"], apart := false, laid := [("unicode/utf8.acceptRanges", laid_unicode_utf8_acceptRanges), ("unicode/utf8.first", laid_unicode_utf8_first)] }
def FnPickTwoSaid : Prop := fnPickTwoRow.holds Tryz.pinned (OpenSpec.ofChange fnPickTwoSpec)

/-- ITS FALSE NEIGHBOUR: 'it returns false'. Refute it at one input. -/
def fnPickTwoWrong : ChangeSpec := { name := "fnPickTwo", fn := fun _ => fun
  | [d] => { results := [.lit (.bool false)], args := [d] }
  | _ => none }
def FnPickTwoWrongFalsely : Prop := fnPickTwoRow.holds Tryz.pinned (OpenSpec.ofChange fnPickTwoWrong)

/- THE SECOND FORM. 'bulk': how many values and letters a reading holds, each counted each time it is reached (what is shared counts as often as it is met; a slice's spare places count too). A statement '..UptoSaid' is the law's where the arguments, and the package variables that the reading takes, are together of bulk at most 1048576: NARROWER than '..Said'. Prove '..Said' where nothing that the law and all that it calls make is longer than what came in: it says more and counts as full. Else prove '..UptoSaid'. A law counts once. -/
mutual
def uptoBulk {H : Type} : DataW H → Nat
  | .lit (.string bytes) => bytes.length + 1
  | .lit _ => 1
  | .nil => 1
  | .ptr d => uptoBulk d + 1
  | .slice elems spare => uptoBulkAll elems + uptoBulkAll spare + 1
  | .agg parts => uptoBulkAll parts + 1
  | .iface _ d => uptoBulk d + 1
  | .map entries => uptoBulkEntries entries + 1
  | .held _ => 1
def uptoBulkAll {H : Type} : List (DataW H) → Nat
  | [] => 0
  | d :: r => uptoBulk d + uptoBulkAll r
def uptoBulkEntries {H : Type} : List (Lit × DataW H) → Nat
  | [] => 0
  | x :: r => uptoBulkEntry x + uptoBulkEntries r
def uptoBulkEntry {H : Type} : Lit × DataW H → Nat
  | (.string bytes, d) => bytes.length + uptoBulk d + 1
  | (_, d) => uptoBulk d + 1
 end
def uptoSmall : (H : Type) → List (DataW H) → Bool := fun _ ds => decide (uptoBulkAll ds ≤ 1048576)
def OpenSpec.upto (s : _root_.Go.ChangeSpec) : _root_.Go.OpenSpec := { _root_.Go.OpenSpec.ofChange s with cond := some uptoSmall }

/-- 'laws.FnExactPickOnto', WHERE WHAT IT READS IS OF BULK AT MOST 1048576: true; the input reads as it did. -/
def fnExactPickOntoUptoRow : OpenClaim := { program := "ytokbhelngoeblaagreatdoor", sum := "9ef5ed6b95885d7a80744db67008bd09902f841a1e7c53d457ebafabf4cb13db", func := "loop.example/versioncontrol/laws.FnExactPickOnto", spec := "fnExactPickOnto", inPlace := ["internal/bytealg.CountString", "internal/bytealg.IndexByteString", "internal/bytealg.IndexString", "slices.overlaps[loop.example/versioncontrol/impl.Head]"], unfollowed := true, recurses := true, named := ["unicode/utf8.first", "unicode/utf8.acceptRanges", "internal/bytealg.MaxLen"], apart := false, laid := [("unicode/utf8.acceptRanges", laid_unicode_utf8_acceptRanges), ("unicode/utf8.first", laid_unicode_utf8_first)], narrowed := true }
def FnExactPickOntoUptoSaid : Prop := fnExactPickOntoUptoRow.holds Tryz.pinned (OpenSpec.upto fnExactPickOntoSpec)

/-- 'laws.FnUniteTree', WHERE WHAT IT READS IS OF BULK AT MOST 1048576: true; the input reads as it did. -/
def fnUniteTreeUptoRow : OpenClaim := { program := "ytokbhelngoeblaagreatdoor", sum := "9ef5ed6b95885d7a80744db67008bd09902f841a1e7c53d457ebafabf4cb13db", func := "loop.example/versioncontrol/laws.FnUniteTree", spec := "fnUniteTree", inPlace := ["internal/bytealg.CountString", "internal/bytealg.IndexByteString", "internal/bytealg.IndexString"], unfollowed := true, recurses := true, named := ["unicode/utf8.first", "unicode/utf8.acceptRanges", "internal/bytealg.MaxLen"], apart := false, laid := [("unicode/utf8.acceptRanges", laid_unicode_utf8_acceptRanges), ("unicode/utf8.first", laid_unicode_utf8_first)], narrowed := true }
def FnUniteTreeUptoSaid : Prop := fnUniteTreeUptoRow.holds Tryz.pinned (OpenSpec.upto fnUniteTreeSpec)

/-- 'laws.FnExactReviewNeed', WHERE WHAT IT READS IS OF BULK AT MOST 1048576: true; the input reads as it did. -/
def fnExactReviewNeedUptoRow : OpenClaim := { program := "ytokbhelngoeblaagreatdoor", sum := "9ef5ed6b95885d7a80744db67008bd09902f841a1e7c53d457ebafabf4cb13db", func := "loop.example/versioncontrol/laws.FnExactReviewNeed", spec := "fnExactReviewNeed", inPlace := ["internal/bytealg.CountString", "internal/bytealg.IndexByteString", "internal/bytealg.IndexString"], recurses := true, named := ["unicode/utf8.first", "unicode/utf8.acceptRanges", "internal/bytealg.MaxLen"], apart := false, laid := [("unicode/utf8.acceptRanges", laid_unicode_utf8_acceptRanges), ("unicode/utf8.first", laid_unicode_utf8_first)], narrowed := true }
def FnExactReviewNeedUptoSaid : Prop := fnExactReviewNeedUptoRow.holds Tryz.pinned (OpenSpec.upto fnExactReviewNeedSpec)

/-- 'laws.FnExactReviewLand', WHERE WHAT IT READS IS OF BULK AT MOST 1048576: true; the input reads as it did. -/
def fnExactReviewLandUptoRow : OpenClaim := { program := "ytokbhelngoeblaagreatdoor", sum := "9ef5ed6b95885d7a80744db67008bd09902f841a1e7c53d457ebafabf4cb13db", func := "loop.example/versioncontrol/laws.FnExactReviewLand", spec := "fnExactReviewLand", inPlace := ["internal/bytealg.CountString", "internal/bytealg.IndexByteString", "internal/bytealg.IndexString", "slices.overlaps[loop.example/versioncontrol/impl.Head]"], unfollowed := true, recurses := true, named := ["unicode/utf8.first", "unicode/utf8.acceptRanges", "internal/bytealg.MaxLen"], apart := false, laid := [("unicode/utf8.acceptRanges", laid_unicode_utf8_acceptRanges), ("unicode/utf8.first", laid_unicode_utf8_first)], narrowed := true }
def FnExactReviewLandUptoSaid : Prop := fnExactReviewLandUptoRow.holds Tryz.pinned (OpenSpec.upto fnExactReviewLandSpec)

/-- 'laws.FnReviewFree', WHERE WHAT IT READS IS OF BULK AT MOST 1048576: true; the input reads as it did. -/
def fnReviewFreeUptoRow : OpenClaim := { program := "ytokbhelngoeblaagreatdoor", sum := "9ef5ed6b95885d7a80744db67008bd09902f841a1e7c53d457ebafabf4cb13db", func := "loop.example/versioncontrol/laws.FnReviewFree", spec := "fnReviewFree", inPlace := ["internal/bytealg.CountString", "internal/bytealg.IndexByteString", "internal/bytealg.IndexString"], recurses := true, named := ["unicode/utf8.first", "unicode/utf8.acceptRanges", "internal/bytealg.MaxLen"], apart := false, laid := [("unicode/utf8.acceptRanges", laid_unicode_utf8_acceptRanges), ("unicode/utf8.first", laid_unicode_utf8_first)], narrowed := true }
def FnReviewFreeUptoSaid : Prop := fnReviewFreeUptoRow.holds Tryz.pinned (OpenSpec.upto fnReviewFreeSpec)

/-- 'laws.FnPickOf', WHERE WHAT IT READS IS OF BULK AT MOST 1048576: true; the input reads as it did. -/
def fnPickOfUptoRow : OpenClaim := { program := "ytokbhelngoeblaagreatdoor", sum := "9ef5ed6b95885d7a80744db67008bd09902f841a1e7c53d457ebafabf4cb13db", func := "loop.example/versioncontrol/laws.FnPickOf", spec := "fnPickOf", inPlace := ["internal/bytealg.CountString", "internal/bytealg.IndexByteString", "internal/bytealg.IndexString", "slices.overlaps[loop.example/versioncontrol/impl.Head]"], unfollowed := true, recurses := true, named := ["unicode/utf8.first", "unicode/utf8.acceptRanges", "internal/bytealg.MaxLen"], apart := false, laid := [("unicode/utf8.acceptRanges", laid_unicode_utf8_acceptRanges), ("unicode/utf8.first", laid_unicode_utf8_first)], narrowed := true }
def FnPickOfUptoSaid : Prop := fnPickOfUptoRow.holds Tryz.pinned (OpenSpec.upto fnPickOfSpec)

/-- 'laws.FnPickBack', WHERE WHAT IT READS IS OF BULK AT MOST 1048576: true; the input reads as it did. -/
def fnPickBackUptoRow : OpenClaim := { program := "ytokbhelngoeblaagreatdoor", sum := "9ef5ed6b95885d7a80744db67008bd09902f841a1e7c53d457ebafabf4cb13db", func := "loop.example/versioncontrol/laws.FnPickBack", spec := "fnPickBack", inPlace := ["internal/bytealg.CountString", "internal/bytealg.IndexByteString", "internal/bytealg.IndexString", "slices.overlaps[loop.example/versioncontrol/impl.Head]"], unfollowed := true, recurses := true, named := ["unicode/utf8.first", "unicode/utf8.acceptRanges", "internal/bytealg.MaxLen"], apart := false, laid := [("unicode/utf8.acceptRanges", laid_unicode_utf8_acceptRanges), ("unicode/utf8.first", laid_unicode_utf8_first)], narrowed := true }
def FnPickBackUptoSaid : Prop := fnPickBackUptoRow.holds Tryz.pinned (OpenSpec.upto fnPickBackSpec)

/-- 'laws.FnPickTwo', WHERE WHAT IT READS IS OF BULK AT MOST 1048576: true; the input reads as it did. -/
def fnPickTwoUptoRow : OpenClaim := { program := "ytokbhelngoeblaagreatdoor", sum := "9ef5ed6b95885d7a80744db67008bd09902f841a1e7c53d457ebafabf4cb13db", func := "loop.example/versioncontrol/laws.FnPickTwo", spec := "fnPickTwo", inPlace := ["internal/bytealg.CountString", "internal/bytealg.IndexByteString", "internal/bytealg.IndexString", "slices.overlaps[loop.example/versioncontrol/impl.Head]"], unfollowed := true, recurses := true, named := ["unicode/utf8.first", "unicode/utf8.acceptRanges", "internal/bytealg.MaxLen"], apart := false, laid := [("unicode/utf8.acceptRanges", laid_unicode_utf8_acceptRanges), ("unicode/utf8.first", laid_unicode_utf8_first)], narrowed := true }
def FnPickTwoUptoSaid : Prop := fnPickTwoUptoRow.holds Tryz.pinned (OpenSpec.upto fnPickTwoSpec)

end Rows
end Go.Proofs.YtokbhelngoeblaaGreatDoor
