/-
  NARROWER THAN 'FOR EVERY INPUT', by the rows' own cells (each row's printed sentence says how): FnBlameLine: laid · FnBlameLog: laid · FnBlameOf: laid · FnRepoCommit: laid · FnKeepOnly: laid · FnLogPath: laid · FnRepoBranch: laid · FnRepoDrop: laid · FnSendOf: laid · FnSendTake: laid · FnSendWay: laid · FnKeepSend: laid.
  DERIVED. THE GIVEN ROWS OF THIS SEAT. 12 by the template 'for every input the law returns true; each argument reads behind the call as it read before'; 0 by the template 'total and deterministic' (their statements: YtpijdodljeieaaaGreatDoorTotals.lean).
  GIVEN WITH THE SEED: the statements are not yours to turn. If you find one false, say at which input.
  Laid BY PROGRAM, IN A SANDBOX (cutbox-rows.mjs): the forced cells as the released guide's own fill.sh prints them over the translation 9124f33cab4f78f8… (all of the seat's roots in one cut). By AI agents, Wed Nov 11 2026. No macro, syntax, notation, axiom, sorry.
-/
import Derived.Test.YtpijdodljeieaaaGreatDoorChecked
import GoSem.PinnedTables
import GoSem.Claim
import GoSem.ClaimJoined
import GoSem.ClaimMapViews
import Derived.JoinedTies
import Derived.KernelRfl
namespace Go.Proofs.YtpijdodljeieaaaGreatDoor
/- THE CELL 'sum', in the pinned program and in every row, IS THE sha256 OF THE DUMP (.gsa) THAT YtpijdodljeieaaaGreatDoorProg.lean LOADS. Nothing in Lean hashes anything: it is a label: what it is worth is what the hold of that sum in a sandbox is worth. -/
noncomputable def Tryz.pinned : Pinned := { name := "ytpijdodljeieaaagreatdoor", sum := "9124f33cab4f78f8b7dd69529a51c91be8fba4a7fc40dfd17a6930c0301805c8", checked := Tryz.checked }
namespace Rows
def none {H : Type} : Left H := { results := [], args := [] }

/- WHAT THE LISTED PACKAGE-LEVEL VARIABLES READ AS WHEN THE CALL BEGINS. Each datum BY PROGRAM (the guide's laid-datum.mjs) off the statement by which the dump's own 'gosem.cut.vars' lays the variable. In a bare row this is a premise. The card (YtpijdodljeieaaaGreatDoorCards.lean) ties it to the program's text. -/
def laid_unicode_utf8_acceptRanges {H : Type} : DataW H := .agg [.agg [.lit (.int .u8 128), .lit (.int .u8 191)], .agg [.lit (.int .u8 160), .lit (.int .u8 191)], .agg [.lit (.int .u8 128), .lit (.int .u8 159)], .agg [.lit (.int .u8 144), .lit (.int .u8 191)], .agg [.lit (.int .u8 128), .lit (.int .u8 143)], .agg [.lit (.int .u8 0), .lit (.int .u8 0)], .agg [.lit (.int .u8 0), .lit (.int .u8 0)], .agg [.lit (.int .u8 0), .lit (.int .u8 0)], .agg [.lit (.int .u8 0), .lit (.int .u8 0)], .agg [.lit (.int .u8 0), .lit (.int .u8 0)], .agg [.lit (.int .u8 0), .lit (.int .u8 0)], .agg [.lit (.int .u8 0), .lit (.int .u8 0)], .agg [.lit (.int .u8 0), .lit (.int .u8 0)], .agg [.lit (.int .u8 0), .lit (.int .u8 0)], .agg [.lit (.int .u8 0), .lit (.int .u8 0)], .agg [.lit (.int .u8 0), .lit (.int .u8 0)]]
/-- One of Go's own tables, pinned by name: the form's constant. -/
def laid_unicode_utf8_first : DataW Unit := Go.Pinned.utf8First

/-- 'laws.FnBlameLine': WHATEVER THE INPUT: true; the input reads as it did. -/
def fnBlameLineSpec : ChangeSpec := { name := "fnBlameLine", fn := fun _ => fun
  | [d] => { results := [.lit (.bool true)], args := [d] }
  | _ => none }
def fnBlameLineRow : OpenClaim := { program := "ytpijdodljeieaaagreatdoor", sum := "9124f33cab4f78f8b7dd69529a51c91be8fba4a7fc40dfd17a6930c0301805c8", func := "loop.example/versioncontrol/laws.FnBlameLine", spec := "fnBlameLine", inPlace := ["internal/bytealg.CountString", "internal/bytealg.IndexByteString", "internal/bytealg.IndexString"], recurses := true, named := ["unicode/utf8.first", "unicode/utf8.acceptRanges", "internal/bytealg.MaxLen"], apart := false, laid := [("unicode/utf8.acceptRanges", laid_unicode_utf8_acceptRanges), ("unicode/utf8.first", laid_unicode_utf8_first)] }
def FnBlameLineSaid : Prop := fnBlameLineRow.holds Tryz.pinned (OpenSpec.ofChange fnBlameLineSpec)

/-- ITS FALSE NEIGHBOUR: 'it returns false'. Refute it at one input. -/
def fnBlameLineWrong : ChangeSpec := { name := "fnBlameLine", fn := fun _ => fun
  | [d] => { results := [.lit (.bool false)], args := [d] }
  | _ => none }
def FnBlameLineWrongFalsely : Prop := fnBlameLineRow.holds Tryz.pinned (OpenSpec.ofChange fnBlameLineWrong)

/-- 'laws.FnBlameLog': WHATEVER THE INPUT: true; the input reads as it did. -/
def fnBlameLogSpec : ChangeSpec := { name := "fnBlameLog", fn := fun _ => fun
  | [d] => { results := [.lit (.bool true)], args := [d] }
  | _ => none }
def fnBlameLogRow : OpenClaim := { program := "ytpijdodljeieaaagreatdoor", sum := "9124f33cab4f78f8b7dd69529a51c91be8fba4a7fc40dfd17a6930c0301805c8", func := "loop.example/versioncontrol/laws.FnBlameLog", spec := "fnBlameLog", inPlace := ["internal/bytealg.CountString", "internal/bytealg.IndexByteString", "internal/bytealg.IndexString"], unfollowed := true, recurses := true, named := ["unicode/utf8.first", "unicode/utf8.acceptRanges", "internal/bytealg.MaxLen"], apart := false, laid := [("unicode/utf8.acceptRanges", laid_unicode_utf8_acceptRanges), ("unicode/utf8.first", laid_unicode_utf8_first)] }
def FnBlameLogSaid : Prop := fnBlameLogRow.holds Tryz.pinned (OpenSpec.ofChange fnBlameLogSpec)

/-- ITS FALSE NEIGHBOUR: 'it returns false'. Refute it at one input. -/
def fnBlameLogWrong : ChangeSpec := { name := "fnBlameLog", fn := fun _ => fun
  | [d] => { results := [.lit (.bool false)], args := [d] }
  | _ => none }
def FnBlameLogWrongFalsely : Prop := fnBlameLogRow.holds Tryz.pinned (OpenSpec.ofChange fnBlameLogWrong)

/-- 'laws.FnBlameOf': WHATEVER THE INPUT: true; the input reads as it did. -/
def fnBlameOfSpec : ChangeSpec := { name := "fnBlameOf", fn := fun _ => fun
  | [d] => { results := [.lit (.bool true)], args := [d] }
  | _ => none }
def fnBlameOfRow : OpenClaim := { program := "ytpijdodljeieaaagreatdoor", sum := "9124f33cab4f78f8b7dd69529a51c91be8fba4a7fc40dfd17a6930c0301805c8", func := "loop.example/versioncontrol/laws.FnBlameOf", spec := "fnBlameOf", inPlace := ["internal/bytealg.CountString", "internal/bytealg.IndexByteString", "internal/bytealg.IndexString"], recurses := true, named := ["unicode/utf8.first", "unicode/utf8.acceptRanges", "internal/bytealg.MaxLen"], apart := false, laid := [("unicode/utf8.acceptRanges", laid_unicode_utf8_acceptRanges), ("unicode/utf8.first", laid_unicode_utf8_first)] }
def FnBlameOfSaid : Prop := fnBlameOfRow.holds Tryz.pinned (OpenSpec.ofChange fnBlameOfSpec)

/-- ITS FALSE NEIGHBOUR: 'it returns false'. Refute it at one input. -/
def fnBlameOfWrong : ChangeSpec := { name := "fnBlameOf", fn := fun _ => fun
  | [d] => { results := [.lit (.bool false)], args := [d] }
  | _ => none }
def FnBlameOfWrongFalsely : Prop := fnBlameOfRow.holds Tryz.pinned (OpenSpec.ofChange fnBlameOfWrong)

/-- 'laws.FnRepoCommit': WHATEVER THE INPUT: true; the input reads as it did. -/
def fnRepoCommitSpec : ChangeSpec := { name := "fnRepoCommit", fn := fun _ => fun
  | [d] => { results := [.lit (.bool true)], args := [d] }
  | _ => none }
def fnRepoCommitRow : OpenClaim := { program := "ytpijdodljeieaaagreatdoor", sum := "9124f33cab4f78f8b7dd69529a51c91be8fba4a7fc40dfd17a6930c0301805c8", func := "loop.example/versioncontrol/laws.FnRepoCommit", spec := "fnRepoCommit", inPlace := ["internal/bytealg.CountString", "internal/bytealg.IndexByteString", "internal/bytealg.IndexString", "slices.overlaps[loop.example/versioncontrol/impl.Head]"], named := ["unicode/utf8.first", "unicode/utf8.acceptRanges", "internal/bytealg.MaxLen"], apart := false, laid := [("unicode/utf8.acceptRanges", laid_unicode_utf8_acceptRanges), ("unicode/utf8.first", laid_unicode_utf8_first)] }
def FnRepoCommitSaid : Prop := fnRepoCommitRow.holds Tryz.pinned (OpenSpec.ofChange fnRepoCommitSpec)

/-- ITS FALSE NEIGHBOUR: 'it returns false'. Refute it at one input. -/
def fnRepoCommitWrong : ChangeSpec := { name := "fnRepoCommit", fn := fun _ => fun
  | [d] => { results := [.lit (.bool false)], args := [d] }
  | _ => none }
def FnRepoCommitWrongFalsely : Prop := fnRepoCommitRow.holds Tryz.pinned (OpenSpec.ofChange fnRepoCommitWrong)

/-- 'laws.FnKeepOnly': WHATEVER THE INPUT: true; the input reads as it did. -/
def fnKeepOnlySpec : ChangeSpec := { name := "fnKeepOnly", fn := fun _ => fun
  | [d] => { results := [.lit (.bool true)], args := [d] }
  | _ => none }
def fnKeepOnlyRow : OpenClaim := { program := "ytpijdodljeieaaagreatdoor", sum := "9124f33cab4f78f8b7dd69529a51c91be8fba4a7fc40dfd17a6930c0301805c8", func := "loop.example/versioncontrol/laws.FnKeepOnly", spec := "fnKeepOnly", inPlace := ["internal/bytealg.CountString", "internal/bytealg.IndexByteString", "internal/bytealg.IndexString"], named := ["unicode/utf8.first", "unicode/utf8.acceptRanges", "internal/bytealg.MaxLen"], apart := false, laid := [("unicode/utf8.acceptRanges", laid_unicode_utf8_acceptRanges), ("unicode/utf8.first", laid_unicode_utf8_first)] }
def FnKeepOnlySaid : Prop := fnKeepOnlyRow.holds Tryz.pinned (OpenSpec.ofChange fnKeepOnlySpec)

/-- ITS FALSE NEIGHBOUR: 'it returns false'. Refute it at one input. -/
def fnKeepOnlyWrong : ChangeSpec := { name := "fnKeepOnly", fn := fun _ => fun
  | [d] => { results := [.lit (.bool false)], args := [d] }
  | _ => none }
def FnKeepOnlyWrongFalsely : Prop := fnKeepOnlyRow.holds Tryz.pinned (OpenSpec.ofChange fnKeepOnlyWrong)

/-- 'laws.FnLogPath': WHATEVER THE INPUT: true; the input reads as it did. -/
def fnLogPathSpec : ChangeSpec := { name := "fnLogPath", fn := fun _ => fun
  | [d] => { results := [.lit (.bool true)], args := [d] }
  | _ => none }
def fnLogPathRow : OpenClaim := { program := "ytpijdodljeieaaagreatdoor", sum := "9124f33cab4f78f8b7dd69529a51c91be8fba4a7fc40dfd17a6930c0301805c8", func := "loop.example/versioncontrol/laws.FnLogPath", spec := "fnLogPath", inPlace := ["internal/bytealg.CountString", "internal/bytealg.IndexByteString", "internal/bytealg.IndexString"], unfollowed := true, recurses := true, named := ["unicode/utf8.first", "unicode/utf8.acceptRanges", "internal/bytealg.MaxLen"], apart := false, laid := [("unicode/utf8.acceptRanges", laid_unicode_utf8_acceptRanges), ("unicode/utf8.first", laid_unicode_utf8_first)] }
def FnLogPathSaid : Prop := fnLogPathRow.holds Tryz.pinned (OpenSpec.ofChange fnLogPathSpec)

/-- ITS FALSE NEIGHBOUR: 'it returns false'. Refute it at one input. -/
def fnLogPathWrong : ChangeSpec := { name := "fnLogPath", fn := fun _ => fun
  | [d] => { results := [.lit (.bool false)], args := [d] }
  | _ => none }
def FnLogPathWrongFalsely : Prop := fnLogPathRow.holds Tryz.pinned (OpenSpec.ofChange fnLogPathWrong)

/-- 'laws.FnRepoBranch': WHATEVER THE INPUT: true; the input reads as it did. -/
def fnRepoBranchSpec : ChangeSpec := { name := "fnRepoBranch", fn := fun _ => fun
  | [d] => { results := [.lit (.bool true)], args := [d] }
  | _ => none }
def fnRepoBranchRow : OpenClaim := { program := "ytpijdodljeieaaagreatdoor", sum := "9124f33cab4f78f8b7dd69529a51c91be8fba4a7fc40dfd17a6930c0301805c8", func := "loop.example/versioncontrol/laws.FnRepoBranch", spec := "fnRepoBranch", inPlace := ["internal/bytealg.CountString", "internal/bytealg.IndexByteString", "internal/bytealg.IndexString", "slices.overlaps[loop.example/versioncontrol/impl.Head]"], unfollowed := true, recurses := true, named := ["unicode/utf8.first", "unicode/utf8.acceptRanges", "internal/bytealg.MaxLen"], apart := false, laid := [("unicode/utf8.acceptRanges", laid_unicode_utf8_acceptRanges), ("unicode/utf8.first", laid_unicode_utf8_first)] }
def FnRepoBranchSaid : Prop := fnRepoBranchRow.holds Tryz.pinned (OpenSpec.ofChange fnRepoBranchSpec)

/-- ITS FALSE NEIGHBOUR: 'it returns false'. Refute it at one input. -/
def fnRepoBranchWrong : ChangeSpec := { name := "fnRepoBranch", fn := fun _ => fun
  | [d] => { results := [.lit (.bool false)], args := [d] }
  | _ => none }
def FnRepoBranchWrongFalsely : Prop := fnRepoBranchRow.holds Tryz.pinned (OpenSpec.ofChange fnRepoBranchWrong)

/-- 'laws.FnRepoDrop': WHATEVER THE INPUT: true; the input reads as it did. -/
def fnRepoDropSpec : ChangeSpec := { name := "fnRepoDrop", fn := fun _ => fun
  | [d] => { results := [.lit (.bool true)], args := [d] }
  | _ => none }
def fnRepoDropRow : OpenClaim := { program := "ytpijdodljeieaaagreatdoor", sum := "9124f33cab4f78f8b7dd69529a51c91be8fba4a7fc40dfd17a6930c0301805c8", func := "loop.example/versioncontrol/laws.FnRepoDrop", spec := "fnRepoDrop", inPlace := ["internal/bytealg.CountString", "internal/bytealg.IndexByteString", "internal/bytealg.IndexString"], unfollowed := true, recurses := true, named := ["unicode/utf8.first", "unicode/utf8.acceptRanges", "internal/bytealg.MaxLen"], apart := false, laid := [("unicode/utf8.acceptRanges", laid_unicode_utf8_acceptRanges), ("unicode/utf8.first", laid_unicode_utf8_first)] }
def FnRepoDropSaid : Prop := fnRepoDropRow.holds Tryz.pinned (OpenSpec.ofChange fnRepoDropSpec)

/-- ITS FALSE NEIGHBOUR: 'it returns false'. Refute it at one input. -/
def fnRepoDropWrong : ChangeSpec := { name := "fnRepoDrop", fn := fun _ => fun
  | [d] => { results := [.lit (.bool false)], args := [d] }
  | _ => none }
def FnRepoDropWrongFalsely : Prop := fnRepoDropRow.holds Tryz.pinned (OpenSpec.ofChange fnRepoDropWrong)

/-- 'laws.FnSendOf': WHATEVER THE INPUT: true; the input reads as it did. -/
def fnSendOfSpec : ChangeSpec := { name := "fnSendOf", fn := fun _ => fun
  | [d] => { results := [.lit (.bool true)], args := [d] }
  | _ => none }
def fnSendOfRow : OpenClaim := { program := "ytpijdodljeieaaagreatdoor", sum := "9124f33cab4f78f8b7dd69529a51c91be8fba4a7fc40dfd17a6930c0301805c8", func := "loop.example/versioncontrol/laws.FnSendOf", spec := "fnSendOf", inPlace := ["internal/bytealg.CountString", "internal/bytealg.IndexByteString", "internal/bytealg.IndexString"], named := ["unicode/utf8.first", "unicode/utf8.acceptRanges", "internal/bytealg.MaxLen"], apart := false, laid := [("unicode/utf8.acceptRanges", laid_unicode_utf8_acceptRanges), ("unicode/utf8.first", laid_unicode_utf8_first)] }
def FnSendOfSaid : Prop := fnSendOfRow.holds Tryz.pinned (OpenSpec.ofChange fnSendOfSpec)

/-- ITS FALSE NEIGHBOUR: 'it returns false'. Refute it at one input. -/
def fnSendOfWrong : ChangeSpec := { name := "fnSendOf", fn := fun _ => fun
  | [d] => { results := [.lit (.bool false)], args := [d] }
  | _ => none }
def FnSendOfWrongFalsely : Prop := fnSendOfRow.holds Tryz.pinned (OpenSpec.ofChange fnSendOfWrong)

/-- 'laws.FnSendTake': WHATEVER THE INPUT: true; the input reads as it did. -/
def fnSendTakeSpec : ChangeSpec := { name := "fnSendTake", fn := fun _ => fun
  | [d] => { results := [.lit (.bool true)], args := [d] }
  | _ => none }
def fnSendTakeRow : OpenClaim := { program := "ytpijdodljeieaaagreatdoor", sum := "9124f33cab4f78f8b7dd69529a51c91be8fba4a7fc40dfd17a6930c0301805c8", func := "loop.example/versioncontrol/laws.FnSendTake", spec := "fnSendTake", inPlace := ["internal/bytealg.CountString", "internal/bytealg.IndexByteString", "internal/bytealg.IndexString", "slices.overlaps[loop.example/versioncontrol/impl.Head]"], named := ["unicode/utf8.first", "unicode/utf8.acceptRanges", "internal/bytealg.MaxLen"], apart := false, laid := [("unicode/utf8.acceptRanges", laid_unicode_utf8_acceptRanges), ("unicode/utf8.first", laid_unicode_utf8_first)] }
def FnSendTakeSaid : Prop := fnSendTakeRow.holds Tryz.pinned (OpenSpec.ofChange fnSendTakeSpec)

/-- ITS FALSE NEIGHBOUR: 'it returns false'. Refute it at one input. -/
def fnSendTakeWrong : ChangeSpec := { name := "fnSendTake", fn := fun _ => fun
  | [d] => { results := [.lit (.bool false)], args := [d] }
  | _ => none }
def FnSendTakeWrongFalsely : Prop := fnSendTakeRow.holds Tryz.pinned (OpenSpec.ofChange fnSendTakeWrong)

/-- 'laws.FnSendWay': WHATEVER THE INPUT: true; the input reads as it did. -/
def fnSendWaySpec : ChangeSpec := { name := "fnSendWay", fn := fun _ => fun
  | [d] => { results := [.lit (.bool true)], args := [d] }
  | _ => none }
def fnSendWayRow : OpenClaim := { program := "ytpijdodljeieaaagreatdoor", sum := "9124f33cab4f78f8b7dd69529a51c91be8fba4a7fc40dfd17a6930c0301805c8", func := "loop.example/versioncontrol/laws.FnSendWay", spec := "fnSendWay", inPlace := ["internal/bytealg.CountString", "internal/bytealg.IndexByteString", "internal/bytealg.IndexString", "slices.overlaps[loop.example/versioncontrol/impl.Head]"], named := ["unicode/utf8.first", "unicode/utf8.acceptRanges", "internal/bytealg.MaxLen"], apart := false, laid := [("unicode/utf8.acceptRanges", laid_unicode_utf8_acceptRanges), ("unicode/utf8.first", laid_unicode_utf8_first)] }
def FnSendWaySaid : Prop := fnSendWayRow.holds Tryz.pinned (OpenSpec.ofChange fnSendWaySpec)

/-- ITS FALSE NEIGHBOUR: 'it returns false'. Refute it at one input. -/
def fnSendWayWrong : ChangeSpec := { name := "fnSendWay", fn := fun _ => fun
  | [d] => { results := [.lit (.bool false)], args := [d] }
  | _ => none }
def FnSendWayWrongFalsely : Prop := fnSendWayRow.holds Tryz.pinned (OpenSpec.ofChange fnSendWayWrong)

/-- 'laws.FnKeepSend': WHATEVER THE INPUT: true; the input reads as it did. -/
def fnKeepSendSpec : ChangeSpec := { name := "fnKeepSend", fn := fun _ => fun
  | [d] => { results := [.lit (.bool true)], args := [d] }
  | _ => none }
def fnKeepSendRow : OpenClaim := { program := "ytpijdodljeieaaagreatdoor", sum := "9124f33cab4f78f8b7dd69529a51c91be8fba4a7fc40dfd17a6930c0301805c8", func := "loop.example/versioncontrol/laws.FnKeepSend", spec := "fnKeepSend", inPlace := ["internal/bytealg.CountString", "internal/bytealg.IndexByteString", "internal/bytealg.IndexString", "slices.overlaps[loop.example/versioncontrol/impl.Head]"], named := ["unicode/utf8.first", "unicode/utf8.acceptRanges", "internal/bytealg.MaxLen"], apart := false, laid := [("unicode/utf8.acceptRanges", laid_unicode_utf8_acceptRanges), ("unicode/utf8.first", laid_unicode_utf8_first)] }
def FnKeepSendSaid : Prop := fnKeepSendRow.holds Tryz.pinned (OpenSpec.ofChange fnKeepSendSpec)

/-- ITS FALSE NEIGHBOUR: 'it returns false'. Refute it at one input. -/
def fnKeepSendWrong : ChangeSpec := { name := "fnKeepSend", fn := fun _ => fun
  | [d] => { results := [.lit (.bool false)], args := [d] }
  | _ => none }
def FnKeepSendWrongFalsely : Prop := fnKeepSendRow.holds Tryz.pinned (OpenSpec.ofChange fnKeepSendWrong)

/- THE SECOND FORM. 'bulk': how many values and letters a reading holds, each counted each time it is reached (what is shared counts as often as it is met; a slice's spare places count too). A statement '..UptoSaid' is the law's where the arguments, and the package variables that the reading takes, are together of bulk at most 1048576: NARROWER than '..Said'. Prove '..Said' where nothing that the law and all that it calls make is longer than what came in: it says more and counts as full. Else prove '..UptoSaid'. A law counts once. -/
mutual
def uptoBulk {H : Type} : DataW H → Nat
  | .lit (.string bytes) => bytes.length + 1
  | .lit _ => 1
  | .nil => 1
  | .ptr d => uptoBulk d + 1
  | .slice elems spare => uptoBulkAll elems + uptoBulkAll spare + 1
  | .agg parts => uptoBulkAll parts + 1
  | .iface _ d => uptoBulk d + 1
  | .map entries => uptoBulkEntries entries + 1
  | .held _ => 1
def uptoBulkAll {H : Type} : List (DataW H) → Nat
  | [] => 0
  | d :: r => uptoBulk d + uptoBulkAll r
def uptoBulkEntries {H : Type} : List (Lit × DataW H) → Nat
  | [] => 0
  | x :: r => uptoBulkEntry x + uptoBulkEntries r
def uptoBulkEntry {H : Type} : Lit × DataW H → Nat
  | (.string bytes, d) => bytes.length + uptoBulk d + 1
  | (_, d) => uptoBulk d + 1
 end
def uptoSmall : (H : Type) → List (DataW H) → Bool := fun _ ds => decide (uptoBulkAll ds ≤ 1048576)
def OpenSpec.upto (s : _root_.Go.ChangeSpec) : _root_.Go.OpenSpec := { _root_.Go.OpenSpec.ofChange s with cond := some uptoSmall }

/-- 'laws.FnBlameLine', WHERE WHAT IT READS IS OF BULK AT MOST 1048576: true; the input reads as it did. -/
def fnBlameLineUptoRow : OpenClaim := { program := "ytpijdodljeieaaagreatdoor", sum := "9124f33cab4f78f8b7dd69529a51c91be8fba4a7fc40dfd17a6930c0301805c8", func := "loop.example/versioncontrol/laws.FnBlameLine", spec := "fnBlameLine", inPlace := ["internal/bytealg.CountString", "internal/bytealg.IndexByteString", "internal/bytealg.IndexString"], recurses := true, named := ["unicode/utf8.first", "unicode/utf8.acceptRanges", "internal/bytealg.MaxLen"], apart := false, laid := [("unicode/utf8.acceptRanges", laid_unicode_utf8_acceptRanges), ("unicode/utf8.first", laid_unicode_utf8_first)], narrowed := true }
def FnBlameLineUptoSaid : Prop := fnBlameLineUptoRow.holds Tryz.pinned (OpenSpec.upto fnBlameLineSpec)

/-- 'laws.FnBlameLog', WHERE WHAT IT READS IS OF BULK AT MOST 1048576: true; the input reads as it did. -/
def fnBlameLogUptoRow : OpenClaim := { program := "ytpijdodljeieaaagreatdoor", sum := "9124f33cab4f78f8b7dd69529a51c91be8fba4a7fc40dfd17a6930c0301805c8", func := "loop.example/versioncontrol/laws.FnBlameLog", spec := "fnBlameLog", inPlace := ["internal/bytealg.CountString", "internal/bytealg.IndexByteString", "internal/bytealg.IndexString"], unfollowed := true, recurses := true, named := ["unicode/utf8.first", "unicode/utf8.acceptRanges", "internal/bytealg.MaxLen"], apart := false, laid := [("unicode/utf8.acceptRanges", laid_unicode_utf8_acceptRanges), ("unicode/utf8.first", laid_unicode_utf8_first)], narrowed := true }
def FnBlameLogUptoSaid : Prop := fnBlameLogUptoRow.holds Tryz.pinned (OpenSpec.upto fnBlameLogSpec)

/-- 'laws.FnBlameOf', WHERE WHAT IT READS IS OF BULK AT MOST 1048576: true; the input reads as it did. -/
def fnBlameOfUptoRow : OpenClaim := { program := "ytpijdodljeieaaagreatdoor", sum := "9124f33cab4f78f8b7dd69529a51c91be8fba4a7fc40dfd17a6930c0301805c8", func := "loop.example/versioncontrol/laws.FnBlameOf", spec := "fnBlameOf", inPlace := ["internal/bytealg.CountString", "internal/bytealg.IndexByteString", "internal/bytealg.IndexString"], recurses := true, named := ["unicode/utf8.first", "unicode/utf8.acceptRanges", "internal/bytealg.MaxLen"], apart := false, laid := [("unicode/utf8.acceptRanges", laid_unicode_utf8_acceptRanges), ("unicode/utf8.first", laid_unicode_utf8_first)], narrowed := true }
def FnBlameOfUptoSaid : Prop := fnBlameOfUptoRow.holds Tryz.pinned (OpenSpec.upto fnBlameOfSpec)

/-- 'laws.FnRepoCommit', WHERE WHAT IT READS IS OF BULK AT MOST 1048576: true; the input reads as it did. -/
def fnRepoCommitUptoRow : OpenClaim := { program := "ytpijdodljeieaaagreatdoor", sum := "9124f33cab4f78f8b7dd69529a51c91be8fba4a7fc40dfd17a6930c0301805c8", func := "loop.example/versioncontrol/laws.FnRepoCommit", spec := "fnRepoCommit", inPlace := ["internal/bytealg.CountString", "internal/bytealg.IndexByteString", "internal/bytealg.IndexString", "slices.overlaps[loop.example/versioncontrol/impl.Head]"], named := ["unicode/utf8.first", "unicode/utf8.acceptRanges", "internal/bytealg.MaxLen"], apart := false, laid := [("unicode/utf8.acceptRanges", laid_unicode_utf8_acceptRanges), ("unicode/utf8.first", laid_unicode_utf8_first)], narrowed := true }
def FnRepoCommitUptoSaid : Prop := fnRepoCommitUptoRow.holds Tryz.pinned (OpenSpec.upto fnRepoCommitSpec)

/-- 'laws.FnKeepOnly', WHERE WHAT IT READS IS OF BULK AT MOST 1048576: true; the input reads as it did. -/
def fnKeepOnlyUptoRow : OpenClaim := { program := "ytpijdodljeieaaagreatdoor", sum := "9124f33cab4f78f8b7dd69529a51c91be8fba4a7fc40dfd17a6930c0301805c8", func := "loop.example/versioncontrol/laws.FnKeepOnly", spec := "fnKeepOnly", inPlace := ["internal/bytealg.CountString", "internal/bytealg.IndexByteString", "internal/bytealg.IndexString"], named := ["unicode/utf8.first", "unicode/utf8.acceptRanges", "internal/bytealg.MaxLen"], apart := false, laid := [("unicode/utf8.acceptRanges", laid_unicode_utf8_acceptRanges), ("unicode/utf8.first", laid_unicode_utf8_first)], narrowed := true }
def FnKeepOnlyUptoSaid : Prop := fnKeepOnlyUptoRow.holds Tryz.pinned (OpenSpec.upto fnKeepOnlySpec)

/-- 'laws.FnLogPath', WHERE WHAT IT READS IS OF BULK AT MOST 1048576: true; the input reads as it did. -/
def fnLogPathUptoRow : OpenClaim := { program := "ytpijdodljeieaaagreatdoor", sum := "9124f33cab4f78f8b7dd69529a51c91be8fba4a7fc40dfd17a6930c0301805c8", func := "loop.example/versioncontrol/laws.FnLogPath", spec := "fnLogPath", inPlace := ["internal/bytealg.CountString", "internal/bytealg.IndexByteString", "internal/bytealg.IndexString"], unfollowed := true, recurses := true, named := ["unicode/utf8.first", "unicode/utf8.acceptRanges", "internal/bytealg.MaxLen"], apart := false, laid := [("unicode/utf8.acceptRanges", laid_unicode_utf8_acceptRanges), ("unicode/utf8.first", laid_unicode_utf8_first)], narrowed := true }
def FnLogPathUptoSaid : Prop := fnLogPathUptoRow.holds Tryz.pinned (OpenSpec.upto fnLogPathSpec)

/-- 'laws.FnRepoBranch', WHERE WHAT IT READS IS OF BULK AT MOST 1048576: true; the input reads as it did. -/
def fnRepoBranchUptoRow : OpenClaim := { program := "ytpijdodljeieaaagreatdoor", sum := "9124f33cab4f78f8b7dd69529a51c91be8fba4a7fc40dfd17a6930c0301805c8", func := "loop.example/versioncontrol/laws.FnRepoBranch", spec := "fnRepoBranch", inPlace := ["internal/bytealg.CountString", "internal/bytealg.IndexByteString", "internal/bytealg.IndexString", "slices.overlaps[loop.example/versioncontrol/impl.Head]"], unfollowed := true, recurses := true, named := ["unicode/utf8.first", "unicode/utf8.acceptRanges", "internal/bytealg.MaxLen"], apart := false, laid := [("unicode/utf8.acceptRanges", laid_unicode_utf8_acceptRanges), ("unicode/utf8.first", laid_unicode_utf8_first)], narrowed := true }
def FnRepoBranchUptoSaid : Prop := fnRepoBranchUptoRow.holds Tryz.pinned (OpenSpec.upto fnRepoBranchSpec)

/-- 'laws.FnRepoDrop', WHERE WHAT IT READS IS OF BULK AT MOST 1048576: true; the input reads as it did. -/
def fnRepoDropUptoRow : OpenClaim := { program := "ytpijdodljeieaaagreatdoor", sum := "9124f33cab4f78f8b7dd69529a51c91be8fba4a7fc40dfd17a6930c0301805c8", func := "loop.example/versioncontrol/laws.FnRepoDrop", spec := "fnRepoDrop", inPlace := ["internal/bytealg.CountString", "internal/bytealg.IndexByteString", "internal/bytealg.IndexString"], unfollowed := true, recurses := true, named := ["unicode/utf8.first", "unicode/utf8.acceptRanges", "internal/bytealg.MaxLen"], apart := false, laid := [("unicode/utf8.acceptRanges", laid_unicode_utf8_acceptRanges), ("unicode/utf8.first", laid_unicode_utf8_first)], narrowed := true }
def FnRepoDropUptoSaid : Prop := fnRepoDropUptoRow.holds Tryz.pinned (OpenSpec.upto fnRepoDropSpec)

/-- 'laws.FnSendOf', WHERE WHAT IT READS IS OF BULK AT MOST 1048576: true; the input reads as it did. -/
def fnSendOfUptoRow : OpenClaim := { program := "ytpijdodljeieaaagreatdoor", sum := "9124f33cab4f78f8b7dd69529a51c91be8fba4a7fc40dfd17a6930c0301805c8", func := "loop.example/versioncontrol/laws.FnSendOf", spec := "fnSendOf", inPlace := ["internal/bytealg.CountString", "internal/bytealg.IndexByteString", "internal/bytealg.IndexString"], named := ["unicode/utf8.first", "unicode/utf8.acceptRanges", "internal/bytealg.MaxLen"], apart := false, laid := [("unicode/utf8.acceptRanges", laid_unicode_utf8_acceptRanges), ("unicode/utf8.first", laid_unicode_utf8_first)], narrowed := true }
def FnSendOfUptoSaid : Prop := fnSendOfUptoRow.holds Tryz.pinned (OpenSpec.upto fnSendOfSpec)

/-- 'laws.FnSendTake', WHERE WHAT IT READS IS OF BULK AT MOST 1048576: true; the input reads as it did. -/
def fnSendTakeUptoRow : OpenClaim := { program := "ytpijdodljeieaaagreatdoor", sum := "9124f33cab4f78f8b7dd69529a51c91be8fba4a7fc40dfd17a6930c0301805c8", func := "loop.example/versioncontrol/laws.FnSendTake", spec := "fnSendTake", inPlace := ["internal/bytealg.CountString", "internal/bytealg.IndexByteString", "internal/bytealg.IndexString", "slices.overlaps[loop.example/versioncontrol/impl.Head]"], named := ["unicode/utf8.first", "unicode/utf8.acceptRanges", "internal/bytealg.MaxLen"], apart := false, laid := [("unicode/utf8.acceptRanges", laid_unicode_utf8_acceptRanges), ("unicode/utf8.first", laid_unicode_utf8_first)], narrowed := true }
def FnSendTakeUptoSaid : Prop := fnSendTakeUptoRow.holds Tryz.pinned (OpenSpec.upto fnSendTakeSpec)

/-- 'laws.FnSendWay', WHERE WHAT IT READS IS OF BULK AT MOST 1048576: true; the input reads as it did. -/
def fnSendWayUptoRow : OpenClaim := { program := "ytpijdodljeieaaagreatdoor", sum := "9124f33cab4f78f8b7dd69529a51c91be8fba4a7fc40dfd17a6930c0301805c8", func := "loop.example/versioncontrol/laws.FnSendWay", spec := "fnSendWay", inPlace := ["internal/bytealg.CountString", "internal/bytealg.IndexByteString", "internal/bytealg.IndexString", "slices.overlaps[loop.example/versioncontrol/impl.Head]"], named := ["unicode/utf8.first", "unicode/utf8.acceptRanges", "internal/bytealg.MaxLen"], apart := false, laid := [("unicode/utf8.acceptRanges", laid_unicode_utf8_acceptRanges), ("unicode/utf8.first", laid_unicode_utf8_first)], narrowed := true }
def FnSendWayUptoSaid : Prop := fnSendWayUptoRow.holds Tryz.pinned (OpenSpec.upto fnSendWaySpec)

/-- 'laws.FnKeepSend', WHERE WHAT IT READS IS OF BULK AT MOST 1048576: true; the input reads as it did. -/
def fnKeepSendUptoRow : OpenClaim := { program := "ytpijdodljeieaaagreatdoor", sum := "9124f33cab4f78f8b7dd69529a51c91be8fba4a7fc40dfd17a6930c0301805c8", func := "loop.example/versioncontrol/laws.FnKeepSend", spec := "fnKeepSend", inPlace := ["internal/bytealg.CountString", "internal/bytealg.IndexByteString", "internal/bytealg.IndexString", "slices.overlaps[loop.example/versioncontrol/impl.Head]"], named := ["unicode/utf8.first", "unicode/utf8.acceptRanges", "internal/bytealg.MaxLen"], apart := false, laid := [("unicode/utf8.acceptRanges", laid_unicode_utf8_acceptRanges), ("unicode/utf8.first", laid_unicode_utf8_first)], narrowed := true }
def FnKeepSendUptoSaid : Prop := fnKeepSendUptoRow.holds Tryz.pinned (OpenSpec.upto fnKeepSendSpec)

end Rows
end Go.Proofs.YtpijdodljeieaaaGreatDoor
