import Derived.Test.YtdgcaegjmohbkaaGreatDoorA10
import Derived.Test.YtdgcaegjmohbkaaGreatDoorRows
import Derived.WalkKit
import Derived.ProofKit
import Derived.Handy
import Derived.Lay
import Derived.SevenTiedAt
import Derived.OpenShut
import Derived.ChangeMaps5
import Derived.Deep.DeepHandedRow
/-
  Part 11 of the tool: an abstract machine over the model, proved sound, and what it says of the functions that the law reaches. Condition: none but those that each theorem names.
-/
set_option linter.unusedVariables false
set_option linter.unusedSimpArgs false
section
namespace Go.Proofs.YtdgcaegjmohbkaaGreatDoor
open Go.ChangeShapes Go.WideShapes Go.ChangeAt Go.RowKit Go.Am
theorem QW:(Rows.docsSegmentsRow.inPlace == Tryz.prog.inPlace 4)=true:=by kernel_rfl
theorem QX:(Rows.docsSegmentsRow.unfollowed == Tryz.prog.unfollowed 4)=true:=by kernel_rfl
theorem QY:(Rows.docsSegmentsRow.recurses == Tryz.prog.recurses 4)=true:=by kernel_rfl
theorem QZ:(Rows.docsSegmentsRow.named == Tryz.prog.varsNamed 4)=true:=by kernel_rfl
theorem Q0:(Rows.docsSegmentsRow.lifted == Tryz.prog.liftsFinal)=true:=by kernel_rfl
theorem Q1:Tryz.prog.stopsHeard=true:=by kernel_rfl
theorem Q2:Tryz.prog.mayEnter=true:=by kernel_rfl
theorem Q3:laidOutB Tryz.prog=true:=by kernel_rfl
theorem Q4:mapsRowed Tryz.prog=true:=by kernel_rfl
theorem Pg:(Rows.docsSegmentsRow.plainKeys == Tryz.prog.plainKeys)=true:=by kernel_rfl
theorem Ph:(Tryz.prog.stops == [])=true:=by kernel_rfl
theorem Pj:(Tryz.prog.stopKnobs == [])=true:=by kernel_rfl
theorem Su:joinedFacts Tryz.prog 4 Tryz.f4 (OpenSpec.ofChange Rows.docsSegmentsSpec).bare Rows.docsSegmentsRow=true:=by
 unfold joinedFacts;rw [QW,QX,QY,QZ,Q0,Q1,Q2,Q3,Q4,Pg,Ph,Pj];kernel_rfl
end Go.Proofs.YtdgcaegjmohbkaaGreatDoor
end
