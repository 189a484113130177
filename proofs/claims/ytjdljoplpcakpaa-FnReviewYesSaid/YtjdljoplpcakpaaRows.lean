/-
  No cell of these rows narrows 'for every input' (looked for: loops, veiled, ifaces, maps, wideKeys, modest, calm, conditions, laid).
  DERIVED. THE GIVEN ROWS OF THIS SEAT. 9 by the template 'for every input the law returns true; each argument reads behind the call as it read before'; 0 by the template 'total and deterministic' (their statements: YtjdljoplpcakpaaTotals.lean).
  GIVEN WITH THE SEED: the statements are not yours to turn. If you find one false, say at which input.
  Laid BY PROGRAM, IN A SANDBOX (cutbox-rows.mjs): the forced cells as the released guide's own fill.sh prints them over the translation 4f5a31a5509a0209… (all of the seat's roots in one cut). By AI agents, Wed Nov 11 2026. No macro, syntax, notation, axiom, sorry.
-/
import Derived.Test.YtjdljoplpcakpaaChecked
import GoSem.Claim
import GoSem.ClaimJoined
import GoSem.ClaimMapViews
import Derived.JoinedTies
import Derived.KernelRfl
namespace Go.Proofs.Ytjdljoplpcakpaa
/- THE CELL 'sum', in the pinned program and in every row, IS THE sha256 OF THE DUMP (.gsa) THAT YtjdljoplpcakpaaProg.lean LOADS. Nothing in Lean hashes anything: it is a label: what it is worth is what the hold of that sum in a sandbox is worth. -/
noncomputable def Try.pinned : Pinned := { name := "ytjdljoplpcakpaa", sum := "4f5a31a5509a020958f0519cf114c28e2ace9dfe554678b2360ddb6f76e06122", checked := Try.checked }
namespace Rows
def none {H : Type} : Left H := { results := [], args := [] }

/-- 'laws.FnExactMemosOk': WHATEVER THE INPUT: true; the input reads as it did. -/
def fnExactMemosOkSpec : ChangeSpec := { name := "fnExactMemosOk", fn := fun _ => fun
  | [d] => { results := [.lit (.bool true)], args := [d] }
  | _ => none }
def fnExactMemosOkRow : OpenClaim := { program := "ytjdljoplpcakpaa", sum := "4f5a31a5509a020958f0519cf114c28e2ace9dfe554678b2360ddb6f76e06122", func := "loop.example/versioncontrol/laws.FnExactMemosOk", spec := "fnExactMemosOk", apart := false }
def FnExactMemosOkSaid : Prop := fnExactMemosOkRow.holds Try.pinned (OpenSpec.ofChange fnExactMemosOkSpec)

/-- ITS FALSE NEIGHBOUR: 'it returns false'. Refute it at one input. -/
def fnExactMemosOkWrong : ChangeSpec := { name := "fnExactMemosOk", fn := fun _ => fun
  | [d] => { results := [.lit (.bool false)], args := [d] }
  | _ => none }
def FnExactMemosOkWrongFalsely : Prop := fnExactMemosOkRow.holds Try.pinned (OpenSpec.ofChange fnExactMemosOkWrong)

/-- 'laws.FnMemoPut': WHATEVER THE INPUT: true; the input reads as it did. -/
def fnMemoPutSpec : ChangeSpec := { name := "fnMemoPut", fn := fun _ => fun
  | [d] => { results := [.lit (.bool true)], args := [d] }
  | _ => none }
def fnMemoPutRow : OpenClaim := { program := "ytjdljoplpcakpaa", sum := "4f5a31a5509a020958f0519cf114c28e2ace9dfe554678b2360ddb6f76e06122", func := "loop.example/versioncontrol/laws.FnMemoPut", spec := "fnMemoPut", apart := false }
def FnMemoPutSaid : Prop := fnMemoPutRow.holds Try.pinned (OpenSpec.ofChange fnMemoPutSpec)

/-- ITS FALSE NEIGHBOUR: 'it returns false'. Refute it at one input. -/
def fnMemoPutWrong : ChangeSpec := { name := "fnMemoPut", fn := fun _ => fun
  | [d] => { results := [.lit (.bool false)], args := [d] }
  | _ => none }
def FnMemoPutWrongFalsely : Prop := fnMemoPutRow.holds Try.pinned (OpenSpec.ofChange fnMemoPutWrong)

/-- 'laws.FnExactMemoPut': WHATEVER THE INPUT: true; the input reads as it did. -/
def fnExactMemoPutSpec : ChangeSpec := { name := "fnExactMemoPut", fn := fun _ => fun
  | [d1, d2] => { results := [.lit (.bool true)], args := [d1, d2] }
  | _ => none }
def fnExactMemoPutRow : OpenClaim := { program := "ytjdljoplpcakpaa", sum := "4f5a31a5509a020958f0519cf114c28e2ace9dfe554678b2360ddb6f76e06122", func := "loop.example/versioncontrol/laws.FnExactMemoPut", spec := "fnExactMemoPut", apart := false }
def FnExactMemoPutSaid : Prop := fnExactMemoPutRow.holds Try.pinned (OpenSpec.ofChange fnExactMemoPutSpec)

/-- ITS FALSE NEIGHBOUR: 'it returns false'. Refute it at one input. -/
def fnExactMemoPutWrong : ChangeSpec := { name := "fnExactMemoPut", fn := fun _ => fun
  | [d1, d2] => { results := [.lit (.bool false)], args := [d1, d2] }
  | _ => none }
def FnExactMemoPutWrongFalsely : Prop := fnExactMemoPutRow.holds Try.pinned (OpenSpec.ofChange fnExactMemoPutWrong)

/-- 'laws.FnExactMemoLeft': WHATEVER THE INPUT: true; the input reads as it did. -/
def fnExactMemoLeftSpec : ChangeSpec := { name := "fnExactMemoLeft", fn := fun _ => fun
  | [d1, d2, d3, d4] => { results := [.lit (.bool true)], args := [d1, d2, d3, d4] }
  | _ => none }
def fnExactMemoLeftRow : OpenClaim := { program := "ytjdljoplpcakpaa", sum := "4f5a31a5509a020958f0519cf114c28e2ace9dfe554678b2360ddb6f76e06122", func := "loop.example/versioncontrol/laws.FnExactMemoLeft", spec := "fnExactMemoLeft", unfollowed := true, recurses := true, apart := false }
def FnExactMemoLeftSaid : Prop := fnExactMemoLeftRow.holds Try.pinned (OpenSpec.ofChange fnExactMemoLeftSpec)

/-- ITS FALSE NEIGHBOUR: 'it returns false'. Refute it at one input. -/
def fnExactMemoLeftWrong : ChangeSpec := { name := "fnExactMemoLeft", fn := fun _ => fun
  | [d1, d2, d3, d4] => { results := [.lit (.bool false)], args := [d1, d2, d3, d4] }
  | _ => none }
def FnExactMemoLeftWrongFalsely : Prop := fnExactMemoLeftRow.holds Try.pinned (OpenSpec.ofChange fnExactMemoLeftWrong)

/-- 'laws.FnMemoDone': WHATEVER THE INPUT: true; the input reads as it did. -/
def fnMemoDoneSpec : ChangeSpec := { name := "fnMemoDone", fn := fun _ => fun
  | [d] => { results := [.lit (.bool true)], args := [d] }
  | _ => none }
def fnMemoDoneRow : OpenClaim := { program := "ytjdljoplpcakpaa", sum := "4f5a31a5509a020958f0519cf114c28e2ace9dfe554678b2360ddb6f76e06122", func := "loop.example/versioncontrol/laws.FnMemoDone", spec := "fnMemoDone", unfollowed := true, recurses := true, apart := false }
def FnMemoDoneSaid : Prop := fnMemoDoneRow.holds Try.pinned (OpenSpec.ofChange fnMemoDoneSpec)

/-- ITS FALSE NEIGHBOUR: 'it returns false'. Refute it at one input. -/
def fnMemoDoneWrong : ChangeSpec := { name := "fnMemoDone", fn := fun _ => fun
  | [d] => { results := [.lit (.bool false)], args := [d] }
  | _ => none }
def FnMemoDoneWrongFalsely : Prop := fnMemoDoneRow.holds Try.pinned (OpenSpec.ofChange fnMemoDoneWrong)

/-- 'laws.FnExactMemoText': WHATEVER THE INPUT: true; the input reads as it did. -/
def fnExactMemoTextSpec : ChangeSpec := { name := "fnExactMemoText", fn := fun _ => fun
  | [d1, d2, d3, d4] => { results := [.lit (.bool true)], args := [d1, d2, d3, d4] }
  | _ => none }
def fnExactMemoTextRow : OpenClaim := { program := "ytjdljoplpcakpaa", sum := "4f5a31a5509a020958f0519cf114c28e2ace9dfe554678b2360ddb6f76e06122", func := "loop.example/versioncontrol/laws.FnExactMemoText", spec := "fnExactMemoText", unfollowed := true, recurses := true, apart := false }
def FnExactMemoTextSaid : Prop := fnExactMemoTextRow.holds Try.pinned (OpenSpec.ofChange fnExactMemoTextSpec)

/-- ITS FALSE NEIGHBOUR: 'it returns false'. Refute it at one input. -/
def fnExactMemoTextWrong : ChangeSpec := { name := "fnExactMemoText", fn := fun _ => fun
  | [d1, d2, d3, d4] => { results := [.lit (.bool false)], args := [d1, d2, d3, d4] }
  | _ => none }
def FnExactMemoTextWrongFalsely : Prop := fnExactMemoTextRow.holds Try.pinned (OpenSpec.ofChange fnExactMemoTextWrong)

/-- 'laws.FnMemoLeft': WHATEVER THE INPUT: true; the input reads as it did. -/
def fnMemoLeftSpec : ChangeSpec := { name := "fnMemoLeft", fn := fun _ => fun
  | [d] => { results := [.lit (.bool true)], args := [d] }
  | _ => none }
def fnMemoLeftRow : OpenClaim := { program := "ytjdljoplpcakpaa", sum := "4f5a31a5509a020958f0519cf114c28e2ace9dfe554678b2360ddb6f76e06122", func := "loop.example/versioncontrol/laws.FnMemoLeft", spec := "fnMemoLeft", unfollowed := true, recurses := true, apart := false }
def FnMemoLeftSaid : Prop := fnMemoLeftRow.holds Try.pinned (OpenSpec.ofChange fnMemoLeftSpec)

/-- ITS FALSE NEIGHBOUR: 'it returns false'. Refute it at one input. -/
def fnMemoLeftWrong : ChangeSpec := { name := "fnMemoLeft", fn := fun _ => fun
  | [d] => { results := [.lit (.bool false)], args := [d] }
  | _ => none }
def FnMemoLeftWrongFalsely : Prop := fnMemoLeftRow.holds Try.pinned (OpenSpec.ofChange fnMemoLeftWrong)

/-- 'laws.FnMemoText': WHATEVER THE INPUT: true; the input reads as it did. -/
def fnMemoTextSpec : ChangeSpec := { name := "fnMemoText", fn := fun _ => fun
  | [d] => { results := [.lit (.bool true)], args := [d] }
  | _ => none }
def fnMemoTextRow : OpenClaim := { program := "ytjdljoplpcakpaa", sum := "4f5a31a5509a020958f0519cf114c28e2ace9dfe554678b2360ddb6f76e06122", func := "loop.example/versioncontrol/laws.FnMemoText", spec := "fnMemoText", unfollowed := true, recurses := true, apart := false }
def FnMemoTextSaid : Prop := fnMemoTextRow.holds Try.pinned (OpenSpec.ofChange fnMemoTextSpec)

/-- ITS FALSE NEIGHBOUR: 'it returns false'. Refute it at one input. -/
def fnMemoTextWrong : ChangeSpec := { name := "fnMemoText", fn := fun _ => fun
  | [d] => { results := [.lit (.bool false)], args := [d] }
  | _ => none }
def FnMemoTextWrongFalsely : Prop := fnMemoTextRow.holds Try.pinned (OpenSpec.ofChange fnMemoTextWrong)

/-- 'laws.FnReviewYes': WHATEVER THE INPUT: true; the input reads as it did. -/
def fnReviewYesSpec : ChangeSpec := { name := "fnReviewYes", fn := fun _ => fun
  | [d] => { results := [.lit (.bool true)], args := [d] }
  | _ => none }
def fnReviewYesRow : OpenClaim := { program := "ytjdljoplpcakpaa", sum := "4f5a31a5509a020958f0519cf114c28e2ace9dfe554678b2360ddb6f76e06122", func := "loop.example/versioncontrol/laws.FnReviewYes", spec := "fnReviewYes", recurses := true, apart := false }
def FnReviewYesSaid : Prop := fnReviewYesRow.holds Try.pinned (OpenSpec.ofChange fnReviewYesSpec)

/-- ITS FALSE NEIGHBOUR: 'it returns false'. Refute it at one input. -/
def fnReviewYesWrong : ChangeSpec := { name := "fnReviewYes", fn := fun _ => fun
  | [d] => { results := [.lit (.bool false)], args := [d] }
  | _ => none }
def FnReviewYesWrongFalsely : Prop := fnReviewYesRow.holds Try.pinned (OpenSpec.ofChange fnReviewYesWrong)

/- THE SECOND FORM. 'bulk': how many values and letters a reading holds, each counted each time it is reached (what is shared counts as often as it is met; a slice's spare places count too). A statement '..UptoSaid' is the law's where the arguments, and the package variables that the reading takes, are together of bulk at most 1048576: NARROWER than '..Said'. Prove '..Said' where nothing that the law and all that it calls make is longer than what came in: it says more and counts as full. Else prove '..UptoSaid'. A law counts once. -/
mutual
def uptoBulk {H : Type} : DataW H → Nat
  | .lit (.string bytes) => bytes.length + 1
  | .lit _ => 1
  | .nil => 1
  | .ptr d => uptoBulk d + 1
  | .slice elems spare => uptoBulkAll elems + uptoBulkAll spare + 1
  | .agg parts => uptoBulkAll parts + 1
  | .iface _ d => uptoBulk d + 1
  | .map entries => uptoBulkEntries entries + 1
  | .held _ => 1
def uptoBulkAll {H : Type} : List (DataW H) → Nat
  | [] => 0
  | d :: r => uptoBulk d + uptoBulkAll r
def uptoBulkEntries {H : Type} : List (Lit × DataW H) → Nat
  | [] => 0
  | x :: r => uptoBulkEntry x + uptoBulkEntries r
def uptoBulkEntry {H : Type} : Lit × DataW H → Nat
  | (.string bytes, d) => bytes.length + uptoBulk d + 1
  | (_, d) => uptoBulk d + 1
 end
def uptoSmall : (H : Type) → List (DataW H) → Bool := fun _ ds => decide (uptoBulkAll ds ≤ 1048576)
def OpenSpec.upto (s : _root_.Go.ChangeSpec) : _root_.Go.OpenSpec := { _root_.Go.OpenSpec.ofChange s with cond := some uptoSmall }

/-- 'laws.FnExactMemosOk', WHERE WHAT IT READS IS OF BULK AT MOST 1048576: true; the input reads as it did. -/
def fnExactMemosOkUptoRow : OpenClaim := { program := "ytjdljoplpcakpaa", sum := "4f5a31a5509a020958f0519cf114c28e2ace9dfe554678b2360ddb6f76e06122", func := "loop.example/versioncontrol/laws.FnExactMemosOk", spec := "fnExactMemosOk", apart := false, narrowed := true }
def FnExactMemosOkUptoSaid : Prop := fnExactMemosOkUptoRow.holds Try.pinned (OpenSpec.upto fnExactMemosOkSpec)

/-- 'laws.FnMemoPut', WHERE WHAT IT READS IS OF BULK AT MOST 1048576: true; the input reads as it did. -/
def fnMemoPutUptoRow : OpenClaim := { program := "ytjdljoplpcakpaa", sum := "4f5a31a5509a020958f0519cf114c28e2ace9dfe554678b2360ddb6f76e06122", func := "loop.example/versioncontrol/laws.FnMemoPut", spec := "fnMemoPut", apart := false, narrowed := true }
def FnMemoPutUptoSaid : Prop := fnMemoPutUptoRow.holds Try.pinned (OpenSpec.upto fnMemoPutSpec)

/-- 'laws.FnExactMemoPut', WHERE WHAT IT READS IS OF BULK AT MOST 1048576: true; the input reads as it did. -/
def fnExactMemoPutUptoRow : OpenClaim := { program := "ytjdljoplpcakpaa", sum := "4f5a31a5509a020958f0519cf114c28e2ace9dfe554678b2360ddb6f76e06122", func := "loop.example/versioncontrol/laws.FnExactMemoPut", spec := "fnExactMemoPut", apart := false, narrowed := true }
def FnExactMemoPutUptoSaid : Prop := fnExactMemoPutUptoRow.holds Try.pinned (OpenSpec.upto fnExactMemoPutSpec)

/-- 'laws.FnExactMemoLeft', WHERE WHAT IT READS IS OF BULK AT MOST 1048576: true; the input reads as it did. -/
def fnExactMemoLeftUptoRow : OpenClaim := { program := "ytjdljoplpcakpaa", sum := "4f5a31a5509a020958f0519cf114c28e2ace9dfe554678b2360ddb6f76e06122", func := "loop.example/versioncontrol/laws.FnExactMemoLeft", spec := "fnExactMemoLeft", unfollowed := true, recurses := true, apart := false, narrowed := true }
def FnExactMemoLeftUptoSaid : Prop := fnExactMemoLeftUptoRow.holds Try.pinned (OpenSpec.upto fnExactMemoLeftSpec)

/-- 'laws.FnMemoDone', WHERE WHAT IT READS IS OF BULK AT MOST 1048576: true; the input reads as it did. -/
def fnMemoDoneUptoRow : OpenClaim := { program := "ytjdljoplpcakpaa", sum := "4f5a31a5509a020958f0519cf114c28e2ace9dfe554678b2360ddb6f76e06122", func := "loop.example/versioncontrol/laws.FnMemoDone", spec := "fnMemoDone", unfollowed := true, recurses := true, apart := false, narrowed := true }
def FnMemoDoneUptoSaid : Prop := fnMemoDoneUptoRow.holds Try.pinned (OpenSpec.upto fnMemoDoneSpec)

/-- 'laws.FnExactMemoText', WHERE WHAT IT READS IS OF BULK AT MOST 1048576: true; the input reads as it did. -/
def fnExactMemoTextUptoRow : OpenClaim := { program := "ytjdljoplpcakpaa", sum := "4f5a31a5509a020958f0519cf114c28e2ace9dfe554678b2360ddb6f76e06122", func := "loop.example/versioncontrol/laws.FnExactMemoText", spec := "fnExactMemoText", unfollowed := true, recurses := true, apart := false, narrowed := true }
def FnExactMemoTextUptoSaid : Prop := fnExactMemoTextUptoRow.holds Try.pinned (OpenSpec.upto fnExactMemoTextSpec)

/-- 'laws.FnMemoLeft', WHERE WHAT IT READS IS OF BULK AT MOST 1048576: true; the input reads as it did. -/
def fnMemoLeftUptoRow : OpenClaim := { program := "ytjdljoplpcakpaa", sum := "4f5a31a5509a020958f0519cf114c28e2ace9dfe554678b2360ddb6f76e06122", func := "loop.example/versioncontrol/laws.FnMemoLeft", spec := "fnMemoLeft", unfollowed := true, recurses := true, apart := false, narrowed := true }
def FnMemoLeftUptoSaid : Prop := fnMemoLeftUptoRow.holds Try.pinned (OpenSpec.upto fnMemoLeftSpec)

/-- 'laws.FnMemoText', WHERE WHAT IT READS IS OF BULK AT MOST 1048576: true; the input reads as it did. -/
def fnMemoTextUptoRow : OpenClaim := { program := "ytjdljoplpcakpaa", sum := "4f5a31a5509a020958f0519cf114c28e2ace9dfe554678b2360ddb6f76e06122", func := "loop.example/versioncontrol/laws.FnMemoText", spec := "fnMemoText", unfollowed := true, recurses := true, apart := false, narrowed := true }
def FnMemoTextUptoSaid : Prop := fnMemoTextUptoRow.holds Try.pinned (OpenSpec.upto fnMemoTextSpec)

/-- 'laws.FnReviewYes', WHERE WHAT IT READS IS OF BULK AT MOST 1048576: true; the input reads as it did. -/
def fnReviewYesUptoRow : OpenClaim := { program := "ytjdljoplpcakpaa", sum := "4f5a31a5509a020958f0519cf114c28e2ace9dfe554678b2360ddb6f76e06122", func := "loop.example/versioncontrol/laws.FnReviewYes", spec := "fnReviewYes", recurses := true, apart := false, narrowed := true }
def FnReviewYesUptoSaid : Prop := fnReviewYesUptoRow.holds Try.pinned (OpenSpec.upto fnReviewYesSpec)

end Rows
end Go.Proofs.Ytjdljoplpcakpaa
