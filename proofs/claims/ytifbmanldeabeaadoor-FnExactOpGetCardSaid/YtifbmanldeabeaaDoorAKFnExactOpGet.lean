/-
 zfp facts of the row of law 'FnExactOpGet', each by itself: they are reckoned by the kernel.
 Conditions: none.
-/
import Derived.Test.YtifbmanldeabeaaDoorRows
import Derived.WalkKit
import Derived.ProofKit
import Derived.OpenShut
import Derived.ShutString
import Derived.ChangeOld
import Derived.Below
import Derived.Deep.DeepHandedRow
import Derived.LaidLaws
import Derived.Test.YtifbmanldeabeaaDoorCards
import Derived.Test.YtifbmanldeabeaaDoorAK0
namespace Go.Proofs.YtifbmanldeabeaaDoor.fnExactOpGet
open Go.ChangeShapes Go.WideShapes Go.ChangeAt Go.RowKit
set_option linter.unusedVariables false
set_option maxRecDepth 100000 in
theorem k2:(laidOutB Tryd.pinned.checked.prog)=true:=kp2
set_option maxRecDepth 100000 in
theorem k3:(mapsRowed Tryd.pinned.checked.prog)=true:=kp3
set_option maxRecDepth 100000 in
theorem k7:((Tryd.pinned.checked.prog.stops==[]))=true:=kp7
set_option maxRecDepth 100000 in
theorem k9:((Tryd.pinned.checked.prog.stopKnobs==[]))=true:=kp9
set_option maxRecDepth 100000 in
theorem k10:((Rows.fnExactOpGetRow.inPlace==Tryd.pinned.checked.prog.inPlace 3))=true:=by kernel_rfl
set_option maxRecDepth 100000 in
theorem k11:((Rows.fnExactOpGetRow.unfollowed==Tryd.pinned.checked.prog.unfollowed 3))=true:=by kernel_rfl
set_option maxRecDepth 100000 in
theorem k12:((Rows.fnExactOpGetRow.recurses==Tryd.pinned.checked.prog.recurses 3))=true:=by kernel_rfl
set_option maxRecDepth 100000 in
theorem k13:((Rows.fnExactOpGetRow.named==Tryd.pinned.checked.prog.varsNamed 3))=true:=by kernel_rfl
set_option maxRecDepth 100000 in
theorem k23:((Rows.fnExactOpGetRow.plainKeys==Tryd.pinned.checked.prog.plainKeys))=true:=kp23
set_option maxRecDepth 100000 in
theorem k25:(Tryd.pinned.checked.prog.stopsHeard)=true:=kp25
set_option maxRecDepth 100000 in
theorem k26:(Tryd.pinned.checked.prog.mayEnter)=true:=kp26
set_option maxRecDepth 100000 in
theorem k27:((Rows.fnExactOpGetRow.lifted==Tryd.pinned.checked.prog.liftsFinal))=true:=kp27
set_option maxRecDepth 100000 in
theorem k28:((Tryd.pinned.checked.prog.make==some Rows.fnExactOpGetRow.make))=true:=kp28
set_option maxRecDepth 100000 in
theorem kt:Rows.fnExactOpGetRow.wfByText (OpenSpec.ofChange Rows.fnExactOpGetSpec)=true:=by kernel_rfl
set_option maxRecDepth 100000 in
theorem kg:false=Rows.fnExactOpGetRow.goesBy Tryd.pinned.checked.prog:=by kernel_rfl
end Go.Proofs.YtifbmanldeabeaaDoor.fnExactOpGet
