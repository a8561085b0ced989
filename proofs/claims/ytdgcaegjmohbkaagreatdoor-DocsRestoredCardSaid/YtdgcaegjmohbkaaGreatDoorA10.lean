import Derived.Test.YtdgcaegjmohbkaaGreatDoorA9
import Derived.Test.YtdgcaegjmohbkaaGreatDoorRows
import Derived.WalkKit
import Derived.ProofKit
import Derived.Handy
import Derived.Lay
import Derived.SevenTiedAt
import Derived.OpenShut
import Derived.ChangeMaps5
import Derived.Deep.DeepHandedRow
/-
  Part 10 of the tool: an abstract machine over the model, proved sound, and what it says of the functions that the law reaches. Condition: none but those that each theorem names.
-/
set_option linter.unusedVariables false
set_option linter.unusedSimpArgs false
section
namespace Go.Proofs.YtdgcaegjmohbkaaGreatDoor
open Go.ChangeShapes Go.WideShapes Go.ChangeAt Go.RowKit Go.Am
theorem P8:(Rows.docsRestoredRow.inPlace == Tryz.prog.inPlace 5)=true:=by kernel_rfl
theorem P9:(Rows.docsRestoredRow.unfollowed == Tryz.prog.unfollowed 5)=true:=by kernel_rfl
theorem Qa:(Rows.docsRestoredRow.recurses == Tryz.prog.recurses 5)=true:=by kernel_rfl
theorem Qb:(Rows.docsRestoredRow.named == Tryz.prog.varsNamed 5)=true:=by kernel_rfl
theorem Qd:(Rows.docsRestoredRow.lifted == Tryz.prog.liftsFinal)=true:=by kernel_rfl
theorem Qe:Tryz.prog.stopsHeard=true:=by kernel_rfl
theorem Qf:Tryz.prog.mayEnter=true:=by kernel_rfl
theorem Qg:laidOutB Tryz.prog=true:=by kernel_rfl
theorem Qh:mapsRowed Tryz.prog=true:=by kernel_rfl
theorem N7:(Rows.docsRestoredRow.plainKeys == Tryz.prog.plainKeys)=true:=by kernel_rfl
theorem N8:(Tryz.prog.stops == [])=true:=by kernel_rfl
theorem N9:(Tryz.prog.stopKnobs == [])=true:=by kernel_rfl
theorem RP:joinedFacts Tryz.prog 5 Tryz.f5 (OpenSpec.ofChange Rows.docsRestoredSpec).bare Rows.docsRestoredRow=true:=by
 unfold joinedFacts;rw [P8,P9,Qa,Qb,Qd,Qe,Qf,Qg,Qh,N7,N8,N9];kernel_rfl
end Go.Proofs.YtdgcaegjmohbkaaGreatDoor
end
