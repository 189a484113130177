/-
  NARROWER THAN 'FOR EVERY INPUT', by the rows' own cells (each row's printed sentence says how): FnAncFar: laid · FnLogWho: laid · FnAncBases: laid · FnAncNew: laid · FnKeepLive: laid · FnLogLeft: laid · FnLogNext: laid.
  DERIVED. THE GIVEN ROWS OF THIS SEAT. 7 by the template 'for every input the law returns true; each argument reads behind the call as it read before'; 0 by the template 'total and deterministic' (their statements: YtkfeiopifiejgaaGreatDoorTotals.lean).
  GIVEN WITH THE SEED: the statements are not yours to turn. If you find one false, say at which input.
  Laid BY PROGRAM, IN A SANDBOX (cutbox-rows.mjs): the forced cells as the released guide's own fill.sh prints them over the translation 61bca8d3704f39f3… (all of the seat's roots in one cut). By AI agents, Wed Nov 11 2026. No macro, syntax, notation, axiom, sorry.
-/
import Derived.Test.YtkfeiopifiejgaaGreatDoorChecked
import GoSem.PinnedTables
import GoSem.Claim
import GoSem.ClaimJoined
import GoSem.ClaimMapViews
import Derived.JoinedTies
import Derived.KernelRfl
namespace Go.Proofs.YtkfeiopifiejgaaGreatDoor
/- THE CELL 'sum', in the pinned program and in every row, IS THE sha256 OF THE DUMP (.gsa) THAT YtkfeiopifiejgaaGreatDoorProg.lean LOADS. Nothing in Lean hashes anything: it is a label: what it is worth is what the hold of that sum in a sandbox is worth. -/
noncomputable def Tryz.pinned : Pinned := { name := "ytkfeiopifiejgaagreatdoor", sum := "61bca8d3704f39f3c34833f334f00f934fb5e94ec537df0685648b1e645a5d57", checked := Tryz.checked }
namespace Rows
def none {H : Type} : Left H := { results := [], args := [] }

/- WHAT THE LISTED PACKAGE-LEVEL VARIABLES READ AS WHEN THE CALL BEGINS. Each datum BY PROGRAM (the guide's laid-datum.mjs) off the statement by which the dump's own 'gosem.cut.vars' lays the variable. In a bare row this is a premise. The card (YtkfeiopifiejgaaGreatDoorCards.lean) ties it to the program's text. -/
def laid_unicode_utf8_acceptRanges {H : Type} : DataW H := .agg [.agg [.lit (.int .u8 128), .lit (.int .u8 191)], .agg [.lit (.int .u8 160), .lit (.int .u8 191)], .agg [.lit (.int .u8 128), .lit (.int .u8 159)], .agg [.lit (.int .u8 144), .lit (.int .u8 191)], .agg [.lit (.int .u8 128), .lit (.int .u8 143)], .agg [.lit (.int .u8 0), .lit (.int .u8 0)], .agg [.lit (.int .u8 0), .lit (.int .u8 0)], .agg [.lit (.int .u8 0), .lit (.int .u8 0)], .agg [.lit (.int .u8 0), .lit (.int .u8 0)], .agg [.lit (.int .u8 0), .lit (.int .u8 0)], .agg [.lit (.int .u8 0), .lit (.int .u8 0)], .agg [.lit (.int .u8 0), .lit (.int .u8 0)], .agg [.lit (.int .u8 0), .lit (.int .u8 0)], .agg [.lit (.int .u8 0), .lit (.int .u8 0)], .agg [.lit (.int .u8 0), .lit (.int .u8 0)], .agg [.lit (.int .u8 0), .lit (.int .u8 0)]]
/-- One of Go's own tables, pinned by name: the form's constant. -/
def laid_unicode_utf8_first : DataW Unit := Go.Pinned.utf8First

/-- 'laws.FnAncFar': WHATEVER THE INPUT: true; the input reads as it did. -/
def fnAncFarSpec : ChangeSpec := { name := "fnAncFar", fn := fun _ => fun
  | [d] => { results := [.lit (.bool true)], args := [d] }
  | _ => none }
def fnAncFarRow : OpenClaim := { program := "ytkfeiopifiejgaagreatdoor", sum := "61bca8d3704f39f3c34833f334f00f934fb5e94ec537df0685648b1e645a5d57", func := "loop.example/versioncontrol/laws.FnAncFar", spec := "fnAncFar", inPlace := ["internal/bytealg.CountString", "internal/bytealg.IndexByteString", "internal/bytealg.IndexString"], named := ["unicode/utf8.first", "unicode/utf8.acceptRanges", "internal/bytealg.MaxLen"], apart := false, laid := [("unicode/utf8.acceptRanges", laid_unicode_utf8_acceptRanges), ("unicode/utf8.first", laid_unicode_utf8_first)] }
def FnAncFarSaid : Prop := fnAncFarRow.holds Tryz.pinned (OpenSpec.ofChange fnAncFarSpec)

/-- ITS FALSE NEIGHBOUR: 'it returns false'. Refute it at one input. -/
def fnAncFarWrong : ChangeSpec := { name := "fnAncFar", fn := fun _ => fun
  | [d] => { results := [.lit (.bool false)], args := [d] }
  | _ => none }
def FnAncFarWrongFalsely : Prop := fnAncFarRow.holds Tryz.pinned (OpenSpec.ofChange fnAncFarWrong)

/-- 'laws.FnLogWho': WHATEVER THE INPUT: true; the input reads as it did. -/
def fnLogWhoSpec : ChangeSpec := { name := "fnLogWho", fn := fun _ => fun
  | [d] => { results := [.lit (.bool true)], args := [d] }
  | _ => none }
def fnLogWhoRow : OpenClaim := { program := "ytkfeiopifiejgaagreatdoor", sum := "61bca8d3704f39f3c34833f334f00f934fb5e94ec537df0685648b1e645a5d57", func := "loop.example/versioncontrol/laws.FnLogWho", spec := "fnLogWho", inPlace := ["internal/bytealg.CountString", "internal/bytealg.IndexByteString", "internal/bytealg.IndexString"], unfollowed := true, recurses := true, named := ["unicode/utf8.first", "unicode/utf8.acceptRanges", "internal/bytealg.MaxLen"], apart := false, laid := [("unicode/utf8.acceptRanges", laid_unicode_utf8_acceptRanges), ("unicode/utf8.first", laid_unicode_utf8_first)] }
def FnLogWhoSaid : Prop := fnLogWhoRow.holds Tryz.pinned (OpenSpec.ofChange fnLogWhoSpec)

/-- ITS FALSE NEIGHBOUR: 'it returns false'. Refute it at one input. -/
def fnLogWhoWrong : ChangeSpec := { name := "fnLogWho", fn := fun _ => fun
  | [d] => { results := [.lit (.bool false)], args := [d] }
  | _ => none }
def FnLogWhoWrongFalsely : Prop := fnLogWhoRow.holds Tryz.pinned (OpenSpec.ofChange fnLogWhoWrong)

/-- 'laws.FnAncBases': WHATEVER THE INPUT: true; the input reads as it did. -/
def fnAncBasesSpec : ChangeSpec := { name := "fnAncBases", fn := fun _ => fun
  | [d] => { results := [.lit (.bool true)], args := [d] }
  | _ => none }
def fnAncBasesRow : OpenClaim := { program := "ytkfeiopifiejgaagreatdoor", sum := "61bca8d3704f39f3c34833f334f00f934fb5e94ec537df0685648b1e645a5d57", func := "loop.example/versioncontrol/laws.FnAncBases", spec := "fnAncBases", inPlace := ["internal/bytealg.CountString", "internal/bytealg.IndexByteString", "internal/bytealg.IndexString"], named := ["unicode/utf8.first", "unicode/utf8.acceptRanges", "internal/bytealg.MaxLen"], apart := false, laid := [("unicode/utf8.acceptRanges", laid_unicode_utf8_acceptRanges), ("unicode/utf8.first", laid_unicode_utf8_first)] }
def FnAncBasesSaid : Prop := fnAncBasesRow.holds Tryz.pinned (OpenSpec.ofChange fnAncBasesSpec)

/-- ITS FALSE NEIGHBOUR: 'it returns false'. Refute it at one input. -/
def fnAncBasesWrong : ChangeSpec := { name := "fnAncBases", fn := fun _ => fun
  | [d] => { results := [.lit (.bool false)], args := [d] }
  | _ => none }
def FnAncBasesWrongFalsely : Prop := fnAncBasesRow.holds Tryz.pinned (OpenSpec.ofChange fnAncBasesWrong)

/-- 'laws.FnAncNew': WHATEVER THE INPUT: true; the input reads as it did. -/
def fnAncNewSpec : ChangeSpec := { name := "fnAncNew", fn := fun _ => fun
  | [d] => { results := [.lit (.bool true)], args := [d] }
  | _ => none }
def fnAncNewRow : OpenClaim := { program := "ytkfeiopifiejgaagreatdoor", sum := "61bca8d3704f39f3c34833f334f00f934fb5e94ec537df0685648b1e645a5d57", func := "loop.example/versioncontrol/laws.FnAncNew", spec := "fnAncNew", inPlace := ["internal/bytealg.CountString", "internal/bytealg.IndexByteString", "internal/bytealg.IndexString"], named := ["unicode/utf8.first", "unicode/utf8.acceptRanges", "internal/bytealg.MaxLen"], apart := false, laid := [("unicode/utf8.acceptRanges", laid_unicode_utf8_acceptRanges), ("unicode/utf8.first", laid_unicode_utf8_first)] }
def FnAncNewSaid : Prop := fnAncNewRow.holds Tryz.pinned (OpenSpec.ofChange fnAncNewSpec)

/-- ITS FALSE NEIGHBOUR: 'it returns false'. Refute it at one input. -/
def fnAncNewWrong : ChangeSpec := { name := "fnAncNew", fn := fun _ => fun
  | [d] => { results := [.lit (.bool false)], args := [d] }
  | _ => none }
def FnAncNewWrongFalsely : Prop := fnAncNewRow.holds Tryz.pinned (OpenSpec.ofChange fnAncNewWrong)

/-- 'laws.FnKeepLive': WHATEVER THE INPUT: true; the input reads as it did. -/
def fnKeepLiveSpec : ChangeSpec := { name := "fnKeepLive", fn := fun _ => fun
  | [d] => { results := [.lit (.bool true)], args := [d] }
  | _ => none }
def fnKeepLiveRow : OpenClaim := { program := "ytkfeiopifiejgaagreatdoor", sum := "61bca8d3704f39f3c34833f334f00f934fb5e94ec537df0685648b1e645a5d57", func := "loop.example/versioncontrol/laws.FnKeepLive", spec := "fnKeepLive", inPlace := ["internal/bytealg.CountString", "internal/bytealg.IndexByteString", "internal/bytealg.IndexString"], named := ["unicode/utf8.first", "unicode/utf8.acceptRanges", "internal/bytealg.MaxLen"], apart := false, laid := [("unicode/utf8.acceptRanges", laid_unicode_utf8_acceptRanges), ("unicode/utf8.first", laid_unicode_utf8_first)] }
def FnKeepLiveSaid : Prop := fnKeepLiveRow.holds Tryz.pinned (OpenSpec.ofChange fnKeepLiveSpec)

/-- ITS FALSE NEIGHBOUR: 'it returns false'. Refute it at one input. -/
def fnKeepLiveWrong : ChangeSpec := { name := "fnKeepLive", fn := fun _ => fun
  | [d] => { results := [.lit (.bool false)], args := [d] }
  | _ => none }
def FnKeepLiveWrongFalsely : Prop := fnKeepLiveRow.holds Tryz.pinned (OpenSpec.ofChange fnKeepLiveWrong)

/-- 'laws.FnLogLeft': WHATEVER THE INPUT: true; the input reads as it did. -/
def fnLogLeftSpec : ChangeSpec := { name := "fnLogLeft", fn := fun _ => fun
  | [d1, d2] => { results := [.lit (.bool true)], args := [d1, d2] }
  | _ => none }
def fnLogLeftRow : OpenClaim := { program := "ytkfeiopifiejgaagreatdoor", sum := "61bca8d3704f39f3c34833f334f00f934fb5e94ec537df0685648b1e645a5d57", func := "loop.example/versioncontrol/laws.FnLogLeft", spec := "fnLogLeft", inPlace := ["internal/bytealg.CountString", "internal/bytealg.IndexByteString", "internal/bytealg.IndexString"], named := ["unicode/utf8.first", "unicode/utf8.acceptRanges", "internal/bytealg.MaxLen"], apart := false, laid := [("unicode/utf8.acceptRanges", laid_unicode_utf8_acceptRanges), ("unicode/utf8.first", laid_unicode_utf8_first)] }
def FnLogLeftSaid : Prop := fnLogLeftRow.holds Tryz.pinned (OpenSpec.ofChange fnLogLeftSpec)

/-- ITS FALSE NEIGHBOUR: 'it returns false'. Refute it at one input. -/
def fnLogLeftWrong : ChangeSpec := { name := "fnLogLeft", fn := fun _ => fun
  | [d1, d2] => { results := [.lit (.bool false)], args := [d1, d2] }
  | _ => none }
def FnLogLeftWrongFalsely : Prop := fnLogLeftRow.holds Tryz.pinned (OpenSpec.ofChange fnLogLeftWrong)

/-- 'laws.FnLogNext': WHATEVER THE INPUT: true; the input reads as it did. -/
def fnLogNextSpec : ChangeSpec := { name := "fnLogNext", fn := fun _ => fun
  | [d] => { results := [.lit (.bool true)], args := [d] }
  | _ => none }
def fnLogNextRow : OpenClaim := { program := "ytkfeiopifiejgaagreatdoor", sum := "61bca8d3704f39f3c34833f334f00f934fb5e94ec537df0685648b1e645a5d57", func := "loop.example/versioncontrol/laws.FnLogNext", spec := "fnLogNext", inPlace := ["internal/bytealg.CountString", "internal/bytealg.IndexByteString", "internal/bytealg.IndexString"], named := ["unicode/utf8.first", "unicode/utf8.acceptRanges", "internal/bytealg.MaxLen"], apart := false, laid := [("unicode/utf8.acceptRanges", laid_unicode_utf8_acceptRanges), ("unicode/utf8.first", laid_unicode_utf8_first)] }
def FnLogNextSaid : Prop := fnLogNextRow.holds Tryz.pinned (OpenSpec.ofChange fnLogNextSpec)

/-- ITS FALSE NEIGHBOUR: 'it returns false'. Refute it at one input. -/
def fnLogNextWrong : ChangeSpec := { name := "fnLogNext", fn := fun _ => fun
  | [d] => { results := [.lit (.bool false)], args := [d] }
  | _ => none }
def FnLogNextWrongFalsely : Prop := fnLogNextRow.holds Tryz.pinned (OpenSpec.ofChange fnLogNextWrong)

/- THE SECOND FORM. 'bulk': how many values and letters a reading holds, each counted each time it is reached (what is shared counts as often as it is met; a slice's spare places count too). A statement '..UptoSaid' is the law's where the arguments, and the package variables that the reading takes, are together of bulk at most 1048576: NARROWER than '..Said'. Prove '..Said' where nothing that the law and all that it calls make is longer than what came in: it says more and counts as full. Else prove '..UptoSaid'. A law counts once. -/
mutual
def uptoBulk {H : Type} : DataW H → Nat
  | .lit (.string bytes) => bytes.length + 1
  | .lit _ => 1
  | .nil => 1
  | .ptr d => uptoBulk d + 1
  | .slice elems spare => uptoBulkAll elems + uptoBulkAll spare + 1
  | .agg parts => uptoBulkAll parts + 1
  | .iface _ d => uptoBulk d + 1
  | .map entries => uptoBulkEntries entries + 1
  | .held _ => 1
def uptoBulkAll {H : Type} : List (DataW H) → Nat
  | [] => 0
  | d :: r => uptoBulk d + uptoBulkAll r
def uptoBulkEntries {H : Type} : List (Lit × DataW H) → Nat
  | [] => 0
  | x :: r => uptoBulkEntry x + uptoBulkEntries r
def uptoBulkEntry {H : Type} : Lit × DataW H → Nat
  | (.string bytes, d) => bytes.length + uptoBulk d + 1
  | (_, d) => uptoBulk d + 1
 end
def uptoSmall : (H : Type) → List (DataW H) → Bool := fun _ ds => decide (uptoBulkAll ds ≤ 1048576)
def OpenSpec.upto (s : _root_.Go.ChangeSpec) : _root_.Go.OpenSpec := { _root_.Go.OpenSpec.ofChange s with cond := some uptoSmall }

/-- 'laws.FnAncFar', WHERE WHAT IT READS IS OF BULK AT MOST 1048576: true; the input reads as it did. -/
def fnAncFarUptoRow : OpenClaim := { program := "ytkfeiopifiejgaagreatdoor", sum := "61bca8d3704f39f3c34833f334f00f934fb5e94ec537df0685648b1e645a5d57", func := "loop.example/versioncontrol/laws.FnAncFar", spec := "fnAncFar", inPlace := ["internal/bytealg.CountString", "internal/bytealg.IndexByteString", "internal/bytealg.IndexString"], named := ["unicode/utf8.first", "unicode/utf8.acceptRanges", "internal/bytealg.MaxLen"], apart := false, laid := [("unicode/utf8.acceptRanges", laid_unicode_utf8_acceptRanges), ("unicode/utf8.first", laid_unicode_utf8_first)], narrowed := true }
def FnAncFarUptoSaid : Prop := fnAncFarUptoRow.holds Tryz.pinned (OpenSpec.upto fnAncFarSpec)

/-- 'laws.FnLogWho', WHERE WHAT IT READS IS OF BULK AT MOST 1048576: true; the input reads as it did. -/
def fnLogWhoUptoRow : OpenClaim := { program := "ytkfeiopifiejgaagreatdoor", sum := "61bca8d3704f39f3c34833f334f00f934fb5e94ec537df0685648b1e645a5d57", func := "loop.example/versioncontrol/laws.FnLogWho", spec := "fnLogWho", inPlace := ["internal/bytealg.CountString", "internal/bytealg.IndexByteString", "internal/bytealg.IndexString"], unfollowed := true, recurses := true, named := ["unicode/utf8.first", "unicode/utf8.acceptRanges", "internal/bytealg.MaxLen"], apart := false, laid := [("unicode/utf8.acceptRanges", laid_unicode_utf8_acceptRanges), ("unicode/utf8.first", laid_unicode_utf8_first)], narrowed := true }
def FnLogWhoUptoSaid : Prop := fnLogWhoUptoRow.holds Tryz.pinned (OpenSpec.upto fnLogWhoSpec)

/-- 'laws.FnAncBases', WHERE WHAT IT READS IS OF BULK AT MOST 1048576: true; the input reads as it did. -/
def fnAncBasesUptoRow : OpenClaim := { program := "ytkfeiopifiejgaagreatdoor", sum := "61bca8d3704f39f3c34833f334f00f934fb5e94ec537df0685648b1e645a5d57", func := "loop.example/versioncontrol/laws.FnAncBases", spec := "fnAncBases", inPlace := ["internal/bytealg.CountString", "internal/bytealg.IndexByteString", "internal/bytealg.IndexString"], named := ["unicode/utf8.first", "unicode/utf8.acceptRanges", "internal/bytealg.MaxLen"], apart := false, laid := [("unicode/utf8.acceptRanges", laid_unicode_utf8_acceptRanges), ("unicode/utf8.first", laid_unicode_utf8_first)], narrowed := true }
def FnAncBasesUptoSaid : Prop := fnAncBasesUptoRow.holds Tryz.pinned (OpenSpec.upto fnAncBasesSpec)

/-- 'laws.FnAncNew', WHERE WHAT IT READS IS OF BULK AT MOST 1048576: true; the input reads as it did. -/
def fnAncNewUptoRow : OpenClaim := { program := "ytkfeiopifiejgaagreatdoor", sum := "61bca8d3704f39f3c34833f334f00f934fb5e94ec537df0685648b1e645a5d57", func := "loop.example/versioncontrol/laws.FnAncNew", spec := "fnAncNew", inPlace := ["internal/bytealg.CountString", "internal/bytealg.IndexByteString", "internal/bytealg.IndexString"], named := ["unicode/utf8.first", "unicode/utf8.acceptRanges", "internal/bytealg.MaxLen"], apart := false, laid := [("unicode/utf8.acceptRanges", laid_unicode_utf8_acceptRanges), ("unicode/utf8.first", laid_unicode_utf8_first)], narrowed := true }
def FnAncNewUptoSaid : Prop := fnAncNewUptoRow.holds Tryz.pinned (OpenSpec.upto fnAncNewSpec)

/-- 'laws.FnKeepLive', WHERE WHAT IT READS IS OF BULK AT MOST 1048576: true; the input reads as it did. -/
def fnKeepLiveUptoRow : OpenClaim := { program := "ytkfeiopifiejgaagreatdoor", sum := "61bca8d3704f39f3c34833f334f00f934fb5e94ec537df0685648b1e645a5d57", func := "loop.example/versioncontrol/laws.FnKeepLive", spec := "fnKeepLive", inPlace := ["internal/bytealg.CountString", "internal/bytealg.IndexByteString", "internal/bytealg.IndexString"], named := ["unicode/utf8.first", "unicode/utf8.acceptRanges", "internal/bytealg.MaxLen"], apart := false, laid := [("unicode/utf8.acceptRanges", laid_unicode_utf8_acceptRanges), ("unicode/utf8.first", laid_unicode_utf8_first)], narrowed := true }
def FnKeepLiveUptoSaid : Prop := fnKeepLiveUptoRow.holds Tryz.pinned (OpenSpec.upto fnKeepLiveSpec)

/-- 'laws.FnLogLeft', WHERE WHAT IT READS IS OF BULK AT MOST 1048576: true; the input reads as it did. -/
def fnLogLeftUptoRow : OpenClaim := { program := "ytkfeiopifiejgaagreatdoor", sum := "61bca8d3704f39f3c34833f334f00f934fb5e94ec537df0685648b1e645a5d57", func := "loop.example/versioncontrol/laws.FnLogLeft", spec := "fnLogLeft", inPlace := ["internal/bytealg.CountString", "internal/bytealg.IndexByteString", "internal/bytealg.IndexString"], named := ["unicode/utf8.first", "unicode/utf8.acceptRanges", "internal/bytealg.MaxLen"], apart := false, laid := [("unicode/utf8.acceptRanges", laid_unicode_utf8_acceptRanges), ("unicode/utf8.first", laid_unicode_utf8_first)], narrowed := true }
def FnLogLeftUptoSaid : Prop := fnLogLeftUptoRow.holds Tryz.pinned (OpenSpec.upto fnLogLeftSpec)

/-- 'laws.FnLogNext', WHERE WHAT IT READS IS OF BULK AT MOST 1048576: true; the input reads as it did. -/
def fnLogNextUptoRow : OpenClaim := { program := "ytkfeiopifiejgaagreatdoor", sum := "61bca8d3704f39f3c34833f334f00f934fb5e94ec537df0685648b1e645a5d57", func := "loop.example/versioncontrol/laws.FnLogNext", spec := "fnLogNext", inPlace := ["internal/bytealg.CountString", "internal/bytealg.IndexByteString", "internal/bytealg.IndexString"], named := ["unicode/utf8.first", "unicode/utf8.acceptRanges", "internal/bytealg.MaxLen"], apart := false, laid := [("unicode/utf8.acceptRanges", laid_unicode_utf8_acceptRanges), ("unicode/utf8.first", laid_unicode_utf8_first)], narrowed := true }
def FnLogNextUptoSaid : Prop := fnLogNextUptoRow.holds Tryz.pinned (OpenSpec.upto fnLogNextSpec)

end Rows
end Go.Proofs.YtkfeiopifiejgaaGreatDoor
