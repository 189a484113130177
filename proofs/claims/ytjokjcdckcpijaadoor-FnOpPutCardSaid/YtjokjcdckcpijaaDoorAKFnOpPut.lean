/-
 zfK facts of the row of law 'FnOpPut', each by itself: they are reckoned by the kernel.
 Conditions: none.
-/
import Derived.Test.YtjokjcdckcpijaaDoorRows
import Derived.WalkKit
import Derived.ProofKit
import Derived.OpenShut
import Derived.ShutString
import Derived.ChangeOld
import Derived.Below
import Derived.Deep.DeepHandedRow
import Derived.LaidLaws
import Derived.Test.YtjokjcdckcpijaaDoorCards
import Derived.Test.YtjokjcdckcpijaaDoorAK0
namespace Go.Proofs.YtjokjcdckcpijaaDoor.fnOpPut
open Go.ChangeShapes Go.WideShapes Go.ChangeAt Go.RowKit
set_option linter.unusedVariables false
set_option maxRecDepth 100000 in
theorem k2:(laidOutB Tryd.pinned.checked.prog)=true:=kp2
set_option maxRecDepth 100000 in
theorem k3:(mapsRowed Tryd.pinned.checked.prog)=true:=kp3
set_option maxRecDepth 100000 in
theorem k7:((Tryd.pinned.checked.prog.stops==[]))=true:=kp7
set_option maxRecDepth 100000 in
theorem k9:((Tryd.pinned.checked.prog.stopKnobs==[]))=true:=kp9
set_option maxRecDepth 100000 in
theorem k10:((Rows.fnOpPutRow.inPlace==Tryd.pinned.checked.prog.inPlace 4))=true:=by kernel_rfl
set_option maxRecDepth 100000 in
theorem k11:((Rows.fnOpPutRow.unfollowed==Tryd.pinned.checked.prog.unfollowed 4))=true:=by kernel_rfl
set_option maxRecDepth 100000 in
theorem k12:((Rows.fnOpPutRow.recurses==Tryd.pinned.checked.prog.recurses 4))=true:=by kernel_rfl
set_option maxRecDepth 100000 in
theorem k13:((Rows.fnOpPutRow.named==Tryd.pinned.checked.prog.varsNamed 4))=true:=by kernel_rfl
set_option maxRecDepth 100000 in
theorem k23:((Rows.fnOpPutRow.plainKeys==Tryd.pinned.checked.prog.plainKeys))=true:=kp23
set_option maxRecDepth 100000 in
theorem k25:(Tryd.pinned.checked.prog.stopsHeard)=true:=kp25
set_option maxRecDepth 100000 in
theorem k26:(Tryd.pinned.checked.prog.mayEnter)=true:=kp26
set_option maxRecDepth 100000 in
theorem k27:((Rows.fnOpPutRow.lifted==Tryd.pinned.checked.prog.liftsFinal))=true:=kp27
set_option maxRecDepth 100000 in
theorem k28:((Tryd.pinned.checked.prog.make==some Rows.fnOpPutRow.make))=true:=kp28
set_option maxRecDepth 100000 in
theorem kt:Rows.fnOpPutRow.wfByText (OpenSpec.ofChange Rows.fnOpPutSpec)=true:=by kernel_rfl
set_option maxRecDepth 100000 in
theorem kg:false=Rows.fnOpPutRow.goesBy Tryd.pinned.checked.prog:=by kernel_rfl
end Go.Proofs.YtjokjcdckcpijaaDoor.fnOpPut
