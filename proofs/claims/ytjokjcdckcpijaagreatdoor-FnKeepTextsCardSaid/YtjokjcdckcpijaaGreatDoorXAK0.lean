/-
 zkc facts of the program, each by itself: they are reckoned by the kernel.
 Conditions: none.
-/
import Derived.Test.YtjokjcdckcpijaaGreatDoorRows
import Derived.WalkKit
import Derived.ProofKit
import Derived.OpenShut
import Derived.ShutString
import Derived.ChangeOld
import Derived.Below
import Derived.Deep.DeepHandedRow
import Derived.LaidLaws
namespace Go.Proofs.YtjokjcdckcpijaaGreatDoor
open Go.ChangeShapes Go.WideShapes Go.ChangeAt Go.RowKit
set_option linter.unusedVariables false
set_option maxRecDepth 100000 in
theorem kp2:(laidOutB Tryz.pinned.checked.prog)=true:=by kernel_rfl
set_option maxRecDepth 100000 in
theorem kp3:(mapsRowed Tryz.pinned.checked.prog)=true:=by kernel_rfl
set_option maxRecDepth 100000 in
theorem kp7:((Tryz.pinned.checked.prog.stops==[]))=true:=by kernel_rfl
set_option maxRecDepth 100000 in
theorem kp9:((Tryz.pinned.checked.prog.stopKnobs==[]))=true:=by kernel_rfl
set_option maxRecDepth 100000 in
theorem kp23:((Rows.fnKeepTextsRow.plainKeys==Tryz.pinned.checked.prog.plainKeys))=true:=by kernel_rfl
set_option maxRecDepth 100000 in
theorem kp25:(Tryz.pinned.checked.prog.stopsHeard)=true:=by kernel_rfl
set_option maxRecDepth 100000 in
theorem kp26:(Tryz.pinned.checked.prog.mayEnter)=true:=by kernel_rfl
set_option maxRecDepth 100000 in
theorem kp27:((Rows.fnKeepTextsRow.lifted==Tryz.pinned.checked.prog.liftsFinal))=true:=by kernel_rfl
set_option maxRecDepth 100000 in
theorem kp28:((Tryz.pinned.checked.prog.make==some Rows.fnKeepTextsRow.make))=true:=by kernel_rfl
end Go.Proofs.YtjokjcdckcpijaaGreatDoor
