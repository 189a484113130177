/-
 zfK facts of the program, each by itself: they are reckoned by the kernel.
 Conditions: none.
-/
import Derived.Test.YtjokjcdckcpijaaDoorRows
import Derived.WalkKit
import Derived.ProofKit
import Derived.OpenShut
import Derived.ShutString
import Derived.ChangeOld
import Derived.Below
import Derived.Deep.DeepHandedRow
import Derived.LaidLaws
namespace Go.Proofs.YtjokjcdckcpijaaDoor
open Go.ChangeShapes Go.WideShapes Go.ChangeAt Go.RowKit
set_option linter.unusedVariables false
set_option maxRecDepth 100000 in
theorem kp2:(laidOutB Tryd.pinned.checked.prog)=true:=by kernel_rfl
set_option maxRecDepth 100000 in
theorem kp3:(mapsRowed Tryd.pinned.checked.prog)=true:=by kernel_rfl
set_option maxRecDepth 100000 in
theorem kp7:((Tryd.pinned.checked.prog.stops==[]))=true:=by kernel_rfl
set_option maxRecDepth 100000 in
theorem kp9:((Tryd.pinned.checked.prog.stopKnobs==[]))=true:=by kernel_rfl
set_option maxRecDepth 100000 in
theorem kp23:((Rows.fnOpGetRow.plainKeys==Tryd.pinned.checked.prog.plainKeys))=true:=by kernel_rfl
set_option maxRecDepth 100000 in
theorem kp25:(Tryd.pinned.checked.prog.stopsHeard)=true:=by kernel_rfl
set_option maxRecDepth 100000 in
theorem kp26:(Tryd.pinned.checked.prog.mayEnter)=true:=by kernel_rfl
set_option maxRecDepth 100000 in
theorem kp27:((Rows.fnOpGetRow.lifted==Tryd.pinned.checked.prog.liftsFinal))=true:=by kernel_rfl
set_option maxRecDepth 100000 in
theorem kp28:((Tryd.pinned.checked.prog.make==some Rows.fnOpGetRow.make))=true:=by kernel_rfl
end Go.Proofs.YtjokjcdckcpijaaDoor
