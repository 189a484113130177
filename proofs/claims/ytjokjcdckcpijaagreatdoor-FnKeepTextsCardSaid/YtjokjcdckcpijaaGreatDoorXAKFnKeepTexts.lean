/-
 zkc facts of the row of law 'FnKeepTexts', each by itself: they are reckoned by the kernel.
 Conditions: none.
-/
import Derived.Test.YtjokjcdckcpijaaGreatDoorRows
import Derived.WalkKit
import Derived.ProofKit
import Derived.OpenShut
import Derived.ShutString
import Derived.ChangeOld
import Derived.Below
import Derived.Deep.DeepHandedRow
import Derived.LaidLaws
import Derived.Test.YtjokjcdckcpijaaGreatDoorCards
import Derived.Test.YtjokjcdckcpijaaGreatDoorXAK0
namespace Go.Proofs.YtjokjcdckcpijaaGreatDoor.fnKeepTexts
open Go.ChangeShapes Go.WideShapes Go.ChangeAt Go.RowKit
set_option linter.unusedVariables false
set_option maxRecDepth 100000 in
theorem k2:(laidOutB Tryz.pinned.checked.prog)=true:=kp2
set_option maxRecDepth 100000 in
theorem k3:(mapsRowed Tryz.pinned.checked.prog)=true:=kp3
set_option maxRecDepth 100000 in
theorem k7:((Tryz.pinned.checked.prog.stops==[]))=true:=kp7
set_option maxRecDepth 100000 in
theorem k9:((Tryz.pinned.checked.prog.stopKnobs==[]))=true:=kp9
set_option maxRecDepth 100000 in
theorem k10:((Rows.fnKeepTextsRow.inPlace==Tryz.pinned.checked.prog.inPlace 3))=true:=by kernel_rfl
set_option maxRecDepth 100000 in
theorem k11:((Rows.fnKeepTextsRow.unfollowed==Tryz.pinned.checked.prog.unfollowed 3))=true:=by kernel_rfl
set_option maxRecDepth 100000 in
theorem k12:((Rows.fnKeepTextsRow.recurses==Tryz.pinned.checked.prog.recurses 3))=true:=by kernel_rfl
set_option maxRecDepth 100000 in
theorem k13:((Rows.fnKeepTextsRow.named==Tryz.pinned.checked.prog.varsNamed 3))=true:=by kernel_rfl
set_option maxRecDepth 100000 in
theorem k23:((Rows.fnKeepTextsRow.plainKeys==Tryz.pinned.checked.prog.plainKeys))=true:=kp23
set_option maxRecDepth 100000 in
theorem k25:(Tryz.pinned.checked.prog.stopsHeard)=true:=kp25
set_option maxRecDepth 100000 in
theorem k26:(Tryz.pinned.checked.prog.mayEnter)=true:=kp26
set_option maxRecDepth 100000 in
theorem k27:((Rows.fnKeepTextsRow.lifted==Tryz.pinned.checked.prog.liftsFinal))=true:=kp27
set_option maxRecDepth 100000 in
theorem k28:((Tryz.pinned.checked.prog.make==some Rows.fnKeepTextsRow.make))=true:=kp28
set_option maxRecDepth 100000 in
theorem kt:Rows.fnKeepTextsRow.wfByText (OpenSpec.ofChange Rows.fnKeepTextsSpec)=true:=by kernel_rfl
set_option maxRecDepth 100000 in
theorem kg:false=Rows.fnKeepTextsRow.goesBy Tryz.pinned.checked.prog:=by kernel_rfl
end Go.Proofs.YtjokjcdckcpijaaGreatDoor.fnKeepTexts
