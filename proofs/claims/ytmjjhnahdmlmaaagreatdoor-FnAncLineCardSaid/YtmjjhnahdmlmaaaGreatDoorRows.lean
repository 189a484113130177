/-
  NARROWER THAN 'FOR EVERY INPUT', by the rows' own cells (each row's printed sentence says how): FnRepoTree: laid · FnAncIs: laid · FnAncLine: laid · FnAncAll: laid.
  DERIVED. THE GIVEN ROWS OF THIS SEAT. 4 by the template 'for every input the law returns true; each argument reads behind the call as it read before'; 0 by the template 'total and deterministic' (their statements: YtmjjhnahdmlmaaaGreatDoorTotals.lean).
  GIVEN WITH THE SEED: the statements are not yours to turn. If you find one false, say at which input.
  Laid BY PROGRAM, IN A SANDBOX (cutbox-rows.mjs): the forced cells as the released guide's own fill.sh prints them over the translation 95d6736cf6585a48… (all of the seat's roots in one cut). By AI agents, Wed Nov 11 2026. No macro, syntax, notation, axiom, sorry.
-/
import Derived.Test.YtmjjhnahdmlmaaaGreatDoorChecked
import GoSem.PinnedTables
import GoSem.Claim
import GoSem.ClaimJoined
import GoSem.ClaimMapViews
import Derived.JoinedTies
import Derived.KernelRfl
namespace Go.Proofs.YtmjjhnahdmlmaaaGreatDoor
/- THE CELL 'sum', in the pinned program and in every row, IS THE sha256 OF THE DUMP (.gsa) THAT YtmjjhnahdmlmaaaGreatDoorProg.lean LOADS. Nothing in Lean hashes anything: it is a label: what it is worth is what the hold of that sum in a sandbox is worth. -/
noncomputable def Tryz.pinned : Pinned := { name := "ytmjjhnahdmlmaaagreatdoor", sum := "95d6736cf6585a4839c2eea7bdb7b77031c8e423dfe94dd33abdfc17ed1f316a", checked := Tryz.checked }
namespace Rows
def none {H : Type} : Left H := { results := [], args := [] }

/- WHAT THE LISTED PACKAGE-LEVEL VARIABLES READ AS WHEN THE CALL BEGINS. Each datum BY PROGRAM (the guide's laid-datum.mjs) off the statement by which the dump's own 'gosem.cut.vars' lays the variable. In a bare row this is a premise. The card (YtmjjhnahdmlmaaaGreatDoorCards.lean) ties it to the program's text. -/
def laid_unicode_utf8_acceptRanges {H : Type} : DataW H := .agg [.agg [.lit (.int .u8 128), .lit (.int .u8 191)], .agg [.lit (.int .u8 160), .lit (.int .u8 191)], .agg [.lit (.int .u8 128), .lit (.int .u8 159)], .agg [.lit (.int .u8 144), .lit (.int .u8 191)], .agg [.lit (.int .u8 128), .lit (.int .u8 143)], .agg [.lit (.int .u8 0), .lit (.int .u8 0)], .agg [.lit (.int .u8 0), .lit (.int .u8 0)], .agg [.lit (.int .u8 0), .lit (.int .u8 0)], .agg [.lit (.int .u8 0), .lit (.int .u8 0)], .agg [.lit (.int .u8 0), .lit (.int .u8 0)], .agg [.lit (.int .u8 0), .lit (.int .u8 0)], .agg [.lit (.int .u8 0), .lit (.int .u8 0)], .agg [.lit (.int .u8 0), .lit (.int .u8 0)], .agg [.lit (.int .u8 0), .lit (.int .u8 0)], .agg [.lit (.int .u8 0), .lit (.int .u8 0)], .agg [.lit (.int .u8 0), .lit (.int .u8 0)]]
/-- One of Go's own tables, pinned by name: the form's constant. -/
def laid_unicode_utf8_first : DataW Unit := Go.Pinned.utf8First

/-- 'laws.FnRepoTree': WHATEVER THE INPUT: true; the input reads as it did. -/
def fnRepoTreeSpec : ChangeSpec := { name := "fnRepoTree", fn := fun _ => fun
  | [d] => { results := [.lit (.bool true)], args := [d] }
  | _ => none }
def fnRepoTreeRow : OpenClaim := { program := "ytmjjhnahdmlmaaagreatdoor", sum := "95d6736cf6585a4839c2eea7bdb7b77031c8e423dfe94dd33abdfc17ed1f316a", func := "loop.example/versioncontrol/laws.FnRepoTree", spec := "fnRepoTree", inPlace := ["internal/bytealg.CountString", "internal/bytealg.IndexByteString", "internal/bytealg.IndexString"], named := ["unicode/utf8.first", "unicode/utf8.acceptRanges", "internal/bytealg.MaxLen"], apart := false, laid := [("unicode/utf8.acceptRanges", laid_unicode_utf8_acceptRanges), ("unicode/utf8.first", laid_unicode_utf8_first)] }
def FnRepoTreeSaid : Prop := fnRepoTreeRow.holds Tryz.pinned (OpenSpec.ofChange fnRepoTreeSpec)

/-- ITS FALSE NEIGHBOUR: 'it returns false'. Refute it at one input. -/
def fnRepoTreeWrong : ChangeSpec := { name := "fnRepoTree", fn := fun _ => fun
  | [d] => { results := [.lit (.bool false)], args := [d] }
  | _ => none }
def FnRepoTreeWrongFalsely : Prop := fnRepoTreeRow.holds Tryz.pinned (OpenSpec.ofChange fnRepoTreeWrong)

/-- 'laws.FnAncIs': WHATEVER THE INPUT: true; the input reads as it did. -/
def fnAncIsSpec : ChangeSpec := { name := "fnAncIs", fn := fun _ => fun
  | [d1, d2] => { results := [.lit (.bool true)], args := [d1, d2] }
  | _ => none }
def fnAncIsRow : OpenClaim := { program := "ytmjjhnahdmlmaaagreatdoor", sum := "95d6736cf6585a4839c2eea7bdb7b77031c8e423dfe94dd33abdfc17ed1f316a", func := "loop.example/versioncontrol/laws.FnAncIs", spec := "fnAncIs", inPlace := ["internal/bytealg.CountString", "internal/bytealg.IndexByteString", "internal/bytealg.IndexString"], named := ["unicode/utf8.first", "unicode/utf8.acceptRanges", "internal/bytealg.MaxLen"], apart := false, laid := [("unicode/utf8.acceptRanges", laid_unicode_utf8_acceptRanges), ("unicode/utf8.first", laid_unicode_utf8_first)] }
def FnAncIsSaid : Prop := fnAncIsRow.holds Tryz.pinned (OpenSpec.ofChange fnAncIsSpec)

/-- ITS FALSE NEIGHBOUR: 'it returns false'. Refute it at one input. -/
def fnAncIsWrong : ChangeSpec := { name := "fnAncIs", fn := fun _ => fun
  | [d1, d2] => { results := [.lit (.bool false)], args := [d1, d2] }
  | _ => none }
def FnAncIsWrongFalsely : Prop := fnAncIsRow.holds Tryz.pinned (OpenSpec.ofChange fnAncIsWrong)

/-- 'laws.FnAncLine': WHATEVER THE INPUT: true; the input reads as it did. -/
def fnAncLineSpec : ChangeSpec := { name := "fnAncLine", fn := fun _ => fun
  | [d] => { results := [.lit (.bool true)], args := [d] }
  | _ => none }
def fnAncLineRow : OpenClaim := { program := "ytmjjhnahdmlmaaagreatdoor", sum := "95d6736cf6585a4839c2eea7bdb7b77031c8e423dfe94dd33abdfc17ed1f316a", func := "loop.example/versioncontrol/laws.FnAncLine", spec := "fnAncLine", inPlace := ["internal/bytealg.CountString", "internal/bytealg.IndexByteString", "internal/bytealg.IndexString"], named := ["unicode/utf8.first", "unicode/utf8.acceptRanges", "internal/bytealg.MaxLen"], apart := false, laid := [("unicode/utf8.acceptRanges", laid_unicode_utf8_acceptRanges), ("unicode/utf8.first", laid_unicode_utf8_first)] }
def FnAncLineSaid : Prop := fnAncLineRow.holds Tryz.pinned (OpenSpec.ofChange fnAncLineSpec)

/-- ITS FALSE NEIGHBOUR: 'it returns false'. Refute it at one input. -/
def fnAncLineWrong : ChangeSpec := { name := "fnAncLine", fn := fun _ => fun
  | [d] => { results := [.lit (.bool false)], args := [d] }
  | _ => none }
def FnAncLineWrongFalsely : Prop := fnAncLineRow.holds Tryz.pinned (OpenSpec.ofChange fnAncLineWrong)

/-- 'laws.FnAncAll': WHATEVER THE INPUT: true; the input reads as it did. -/
def fnAncAllSpec : ChangeSpec := { name := "fnAncAll", fn := fun _ => fun
  | [d] => { results := [.lit (.bool true)], args := [d] }
  | _ => none }
def fnAncAllRow : OpenClaim := { program := "ytmjjhnahdmlmaaagreatdoor", sum := "95d6736cf6585a4839c2eea7bdb7b77031c8e423dfe94dd33abdfc17ed1f316a", func := "loop.example/versioncontrol/laws.FnAncAll", spec := "fnAncAll", inPlace := ["internal/bytealg.CountString", "internal/bytealg.IndexByteString", "internal/bytealg.IndexString"], named := ["unicode/utf8.first", "unicode/utf8.acceptRanges", "internal/bytealg.MaxLen"], apart := false, laid := [("unicode/utf8.acceptRanges", laid_unicode_utf8_acceptRanges), ("unicode/utf8.first", laid_unicode_utf8_first)] }
def FnAncAllSaid : Prop := fnAncAllRow.holds Tryz.pinned (OpenSpec.ofChange fnAncAllSpec)

/-- ITS FALSE NEIGHBOUR: 'it returns false'. Refute it at one input. -/
def fnAncAllWrong : ChangeSpec := { name := "fnAncAll", fn := fun _ => fun
  | [d] => { results := [.lit (.bool false)], args := [d] }
  | _ => none }
def FnAncAllWrongFalsely : Prop := fnAncAllRow.holds Tryz.pinned (OpenSpec.ofChange fnAncAllWrong)

/- THE SECOND FORM. 'bulk': how many values and letters a reading holds, each counted each time it is reached (what is shared counts as often as it is met; a slice's spare places count too). A statement '..UptoSaid' is the law's where the arguments, and the package variables that the reading takes, are together of bulk at most 1048576: NARROWER than '..Said'. Prove '..Said' where nothing that the law and all that it calls make is longer than what came in: it says more and counts as full. Else prove '..UptoSaid'. A law counts once. -/
mutual
def uptoBulk {H : Type} : DataW H → Nat
  | .lit (.string bytes) => bytes.length + 1
  | .lit _ => 1
  | .nil => 1
  | .ptr d => uptoBulk d + 1
  | .slice elems spare => uptoBulkAll elems + uptoBulkAll spare + 1
  | .agg parts => uptoBulkAll parts + 1
  | .iface _ d => uptoBulk d + 1
  | .map entries => uptoBulkEntries entries + 1
  | .held _ => 1
def uptoBulkAll {H : Type} : List (DataW H) → Nat
  | [] => 0
  | d :: r => uptoBulk d + uptoBulkAll r
def uptoBulkEntries {H : Type} : List (Lit × DataW H) → Nat
  | [] => 0
  | x :: r => uptoBulkEntry x + uptoBulkEntries r
def uptoBulkEntry {H : Type} : Lit × DataW H → Nat
  | (.string bytes, d) => bytes.length + uptoBulk d + 1
  | (_, d) => uptoBulk d + 1
 end
def uptoSmall : (H : Type) → List (DataW H) → Bool := fun _ ds => decide (uptoBulkAll ds ≤ 1048576)
def OpenSpec.upto (s : _root_.Go.ChangeSpec) : _root_.Go.OpenSpec := { _root_.Go.OpenSpec.ofChange s with cond := some uptoSmall }

/-- 'laws.FnRepoTree', WHERE WHAT IT READS IS OF BULK AT MOST 1048576: true; the input reads as it did. -/
def fnRepoTreeUptoRow : OpenClaim := { program := "ytmjjhnahdmlmaaagreatdoor", sum := "95d6736cf6585a4839c2eea7bdb7b77031c8e423dfe94dd33abdfc17ed1f316a", func := "loop.example/versioncontrol/laws.FnRepoTree", spec := "fnRepoTree", inPlace := ["internal/bytealg.CountString", "internal/bytealg.IndexByteString", "internal/bytealg.IndexString"], named := ["unicode/utf8.first", "unicode/utf8.acceptRanges", "internal/bytealg.MaxLen"], apart := false, laid := [("unicode/utf8.acceptRanges", laid_unicode_utf8_acceptRanges), ("unicode/utf8.first", laid_unicode_utf8_first)], narrowed := true }
def FnRepoTreeUptoSaid : Prop := fnRepoTreeUptoRow.holds Tryz.pinned (OpenSpec.upto fnRepoTreeSpec)

/-- 'laws.FnAncIs', WHERE WHAT IT READS IS OF BULK AT MOST 1048576: true; the input reads as it did. -/
def fnAncIsUptoRow : OpenClaim := { program := "ytmjjhnahdmlmaaagreatdoor", sum := "95d6736cf6585a4839c2eea7bdb7b77031c8e423dfe94dd33abdfc17ed1f316a", func := "loop.example/versioncontrol/laws.FnAncIs", spec := "fnAncIs", inPlace := ["internal/bytealg.CountString", "internal/bytealg.IndexByteString", "internal/bytealg.IndexString"], named := ["unicode/utf8.first", "unicode/utf8.acceptRanges", "internal/bytealg.MaxLen"], apart := false, laid := [("unicode/utf8.acceptRanges", laid_unicode_utf8_acceptRanges), ("unicode/utf8.first", laid_unicode_utf8_first)], narrowed := true }
def FnAncIsUptoSaid : Prop := fnAncIsUptoRow.holds Tryz.pinned (OpenSpec.upto fnAncIsSpec)

/-- 'laws.FnAncLine', WHERE WHAT IT READS IS OF BULK AT MOST 1048576: true; the input reads as it did. -/
def fnAncLineUptoRow : OpenClaim := { program := "ytmjjhnahdmlmaaagreatdoor", sum := "95d6736cf6585a4839c2eea7bdb7b77031c8e423dfe94dd33abdfc17ed1f316a", func := "loop.example/versioncontrol/laws.FnAncLine", spec := "fnAncLine", inPlace := ["internal/bytealg.CountString", "internal/bytealg.IndexByteString", "internal/bytealg.IndexString"], named := ["unicode/utf8.first", "unicode/utf8.acceptRanges", "internal/bytealg.MaxLen"], apart := false, laid := [("unicode/utf8.acceptRanges", laid_unicode_utf8_acceptRanges), ("unicode/utf8.first", laid_unicode_utf8_first)], narrowed := true }
def FnAncLineUptoSaid : Prop := fnAncLineUptoRow.holds Tryz.pinned (OpenSpec.upto fnAncLineSpec)

/-- 'laws.FnAncAll', WHERE WHAT IT READS IS OF BULK AT MOST 1048576: true; the input reads as it did. -/
def fnAncAllUptoRow : OpenClaim := { program := "ytmjjhnahdmlmaaagreatdoor", sum := "95d6736cf6585a4839c2eea7bdb7b77031c8e423dfe94dd33abdfc17ed1f316a", func := "loop.example/versioncontrol/laws.FnAncAll", spec := "fnAncAll", inPlace := ["internal/bytealg.CountString", "internal/bytealg.IndexByteString", "internal/bytealg.IndexString"], named := ["unicode/utf8.first", "unicode/utf8.acceptRanges", "internal/bytealg.MaxLen"], apart := false, laid := [("unicode/utf8.acceptRanges", laid_unicode_utf8_acceptRanges), ("unicode/utf8.first", laid_unicode_utf8_first)], narrowed := true }
def FnAncAllUptoSaid : Prop := fnAncAllUptoRow.holds Tryz.pinned (OpenSpec.upto fnAncAllSpec)

end Rows
end Go.Proofs.YtmjjhnahdmlmaaaGreatDoor
