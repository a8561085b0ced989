import Derived.Test.YtfnicihkpnjahaaGreatDoorA8
import Derived.Test.YtfnicihkpnjahaaGreatDoorRows
import Derived.WalkKit
import Derived.ProofKit
import Derived.Handy
import Derived.Lay
import Derived.SevenTiedAt
import Derived.OpenShut
import Derived.ChangeMaps5
import Derived.Deep.DeepHandedRow
/-
  Part 9 of the tool: an abstract machine over the model, proved sound, and what it says of the functions that the law reaches. Condition: none but those that each theorem names.
-/
set_option linter.unusedVariables false
set_option linter.unusedSimpArgs false
section
namespace Go.Proofs.YtfnicihkpnjahaaGreatDoor
open Go.ChangeShapes Go.WideShapes Go.ChangeAt Go.RowKit Go.Am
theorem J3:(Rows.docsDocumentsRow.inPlace == Tryz.prog.inPlace 5)=true:=by kernel_rfl
theorem J4:(Rows.docsDocumentsRow.unfollowed == Tryz.prog.unfollowed 5)=true:=by kernel_rfl
theorem J5:(Rows.docsDocumentsRow.recurses == Tryz.prog.recurses 5)=true:=by kernel_rfl
theorem J6:(Rows.docsDocumentsRow.named == Tryz.prog.varsNamed 5)=true:=by kernel_rfl
theorem J7:(Rows.docsDocumentsRow.lifted == Tryz.prog.liftsFinal)=true:=by kernel_rfl
theorem J8:Tryz.prog.stopsHeard=true:=by kernel_rfl
theorem J9:Tryz.prog.mayEnter=true:=by kernel_rfl
theorem Ka:laidOutB Tryz.prog=true:=by kernel_rfl
theorem Kb:mapsRowed Tryz.prog=true:=by kernel_rfl
theorem IE:(Rows.docsDocumentsRow.plainKeys == Tryz.prog.plainKeys)=true:=by kernel_rfl
theorem IF:(Tryz.prog.stops == [])=true:=by kernel_rfl
theorem IG:(Tryz.prog.stopKnobs == [])=true:=by kernel_rfl
theorem LB:joinedFacts Tryz.prog 5 Tryz.f5 (OpenSpec.ofChange Rows.docsDocumentsSpec).bare Rows.docsDocumentsRow=true:=by
 unfold joinedFacts;rw [J3,J4,J5,J6,J7,J8,J9,Ka,Kb,IE,IF,IG];kernel_rfl
end Go.Proofs.YtfnicihkpnjahaaGreatDoor
end
