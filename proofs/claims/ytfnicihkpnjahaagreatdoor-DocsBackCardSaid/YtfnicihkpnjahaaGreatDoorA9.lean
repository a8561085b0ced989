import Derived.Test.YtfnicihkpnjahaaGreatDoorA8
import Derived.Test.YtfnicihkpnjahaaGreatDoorRows
import Derived.WalkKit
import Derived.ProofKit
import Derived.Handy
import Derived.Lay
import Derived.SevenTiedAt
import Derived.OpenShut
import Derived.ChangeMaps5
import Derived.Deep.DeepHandedRow
/-
  Part 4 of the tool: an abstract machine over the model, proved sound, and what it says of the functions that the law reaches. Condition: none but those that each theorem names.
-/
set_option linter.unusedVariables false
set_option linter.unusedSimpArgs false
section
namespace Go.Proofs.YtfnicihkpnjahaaGreatDoor
open Go.ChangeShapes Go.WideShapes Go.ChangeAt Go.RowKit Go.Am
theorem HW:(Rows.docsBackRow.inPlace == Tryz.prog.inPlace 3)=true:=by kernel_rfl
theorem HX:(Rows.docsBackRow.unfollowed == Tryz.prog.unfollowed 3)=true:=by kernel_rfl
theorem HY:(Rows.docsBackRow.recurses == Tryz.prog.recurses 3)=true:=by kernel_rfl
theorem HZ:(Rows.docsBackRow.named == Tryz.prog.varsNamed 3)=true:=by kernel_rfl
theorem H6:(Rows.docsBackRow.lifted == Tryz.prog.liftsFinal)=true:=by kernel_rfl
theorem H7:Tryz.prog.stopsHeard=true:=by kernel_rfl
theorem H8:Tryz.prog.mayEnter=true:=by kernel_rfl
theorem H9:laidOutB Tryz.prog=true:=by kernel_rfl
theorem Ia:mapsRowed Tryz.prog=true:=by kernel_rfl
theorem Gy:(Rows.docsBackRow.plainKeys == Tryz.prog.plainKeys)=true:=by kernel_rfl
theorem Gz:(Tryz.prog.stops == [])=true:=by kernel_rfl
theorem GA:(Tryz.prog.stopKnobs == [])=true:=by kernel_rfl
theorem Jr:joinedFacts Tryz.prog 3 Tryz.f3 (OpenSpec.ofChange Rows.docsBackSpec).bare Rows.docsBackRow=true:=by
 unfold joinedFacts;rw [HW,HX,HY,HZ,H6,H7,H8,H9,Ia,Gy,Gz,GA];kernel_rfl
end Go.Proofs.YtfnicihkpnjahaaGreatDoor
end
