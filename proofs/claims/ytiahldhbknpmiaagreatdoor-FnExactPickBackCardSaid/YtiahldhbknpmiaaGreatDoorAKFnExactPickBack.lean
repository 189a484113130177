/-
 znY facts of the row of law 'FnExactPickBack', each by itself: they are reckoned by the kernel.
 Conditions: none.
-/
import Derived.Test.YtiahldhbknpmiaaGreatDoorRows
import Derived.WalkKit
import Derived.ProofKit
import Derived.OpenShut
import Derived.ShutString
import Derived.ChangeOld
import Derived.Below
import Derived.Deep.DeepHandedRow
import Derived.LaidLaws
import Derived.Test.YtiahldhbknpmiaaGreatDoorCards
import Derived.Test.YtiahldhbknpmiaaGreatDoorAK0
namespace Go.Proofs.YtiahldhbknpmiaaGreatDoor.fnExactPickBack
open Go.ChangeShapes Go.WideShapes Go.ChangeAt Go.RowKit
set_option linter.unusedVariables false
set_option maxRecDepth 100000 in
theorem k2:(laidOutB Tryz.pinned.checked.prog)=true:=kp2
set_option maxRecDepth 100000 in
theorem k3:(mapsRowed Tryz.pinned.checked.prog)=true:=kp3
set_option maxRecDepth 100000 in
theorem k7:((Tryz.pinned.checked.prog.stops==[]))=true:=kp7
set_option maxRecDepth 100000 in
theorem k9:((Tryz.pinned.checked.prog.stopKnobs==[]))=true:=kp9
set_option maxRecDepth 100000 in
theorem k10:((Rows.fnExactPickBackRow.inPlace==Tryz.pinned.checked.prog.inPlace 3))=true:=by kernel_rfl
set_option maxRecDepth 100000 in
theorem k11:((Rows.fnExactPickBackRow.unfollowed==Tryz.pinned.checked.prog.unfollowed 3))=true:=by kernel_rfl
set_option maxRecDepth 100000 in
theorem k12:((Rows.fnExactPickBackRow.recurses==Tryz.pinned.checked.prog.recurses 3))=true:=by kernel_rfl
set_option maxRecDepth 100000 in
theorem k13:((Rows.fnExactPickBackRow.named==Tryz.pinned.checked.prog.varsNamed 3))=true:=by kernel_rfl
set_option maxRecDepth 100000 in
theorem k23:((Rows.fnExactPickBackRow.plainKeys==Tryz.pinned.checked.prog.plainKeys))=true:=kp23
set_option maxRecDepth 100000 in
theorem k25:(Tryz.pinned.checked.prog.stopsHeard)=true:=kp25
set_option maxRecDepth 100000 in
theorem k26:(Tryz.pinned.checked.prog.mayEnter)=true:=kp26
set_option maxRecDepth 100000 in
theorem k27:((Rows.fnExactPickBackRow.lifted==Tryz.pinned.checked.prog.liftsFinal))=true:=kp27
set_option maxRecDepth 100000 in
theorem k28:((Tryz.pinned.checked.prog.make==some Rows.fnExactPickBackRow.make))=true:=kp28
set_option maxRecDepth 100000 in
theorem kt:Rows.fnExactPickBackRow.wfByText (OpenSpec.ofChange Rows.fnExactPickBackSpec)=true:=by kernel_rfl
set_option maxRecDepth 100000 in
theorem kg:false=Rows.fnExactPickBackRow.goesBy Tryz.pinned.checked.prog:=by kernel_rfl
end Go.Proofs.YtiahldhbknpmiaaGreatDoor.fnExactPickBack
