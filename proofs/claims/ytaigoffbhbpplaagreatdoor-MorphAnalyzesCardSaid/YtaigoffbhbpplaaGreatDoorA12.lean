import Derived.Test.YtaigoffbhbpplaaGreatDoorA11
import Derived.Test.YtaigoffbhbpplaaGreatDoorRows
import Derived.WalkKit
import Derived.ProofKit
import Derived.Handy
import Derived.Lay
import Derived.SevenTiedAt
import Derived.OpenShut
import Derived.ChangeMaps5
import Derived.Deep.DeepHandedRow
/-
  Part 12 of the tool: an abstract machine over the model, proved sound, and what it says of the functions that the law reaches. Condition: none but those that each theorem names.
-/
set_option linter.unusedVariables false
set_option linter.unusedSimpArgs false
section
namespace Go.Proofs.YtaigoffbhbpplaaGreatDoor
open Go.ChangeShapes Go.WideShapes Go.ChangeAt Go.RowKit Go.Am
theorem abP:(Rows.morphAnalyzesRow.inPlace == Tryz.prog.inPlace 7)=true:=by kernel_rfl
theorem abQ:(Rows.morphAnalyzesRow.unfollowed == Tryz.prog.unfollowed 7)=true:=by kernel_rfl
theorem abR:(Rows.morphAnalyzesRow.recurses == Tryz.prog.recurses 7)=true:=by kernel_rfl
theorem abS:(Rows.morphAnalyzesRow.named == Tryz.prog.varsNamed 7)=true:=by kernel_rfl
theorem abT:(Rows.morphAnalyzesRow.lifted == Tryz.prog.liftsFinal)=true:=by kernel_rfl
theorem abU:Tryz.prog.stopsHeard=true:=by kernel_rfl
theorem abV:Tryz.prog.mayEnter=true:=by kernel_rfl
theorem abW:laidOutB Tryz.prog=true:=by kernel_rfl
theorem abX:mapsRowed Tryz.prog=true:=by kernel_rfl
theorem aaw:(Rows.morphAnalyzesRow.plainKeys == Tryz.prog.plainKeys)=true:=by kernel_rfl
theorem aax:(Tryz.prog.stops == [])=true:=by kernel_rfl
theorem aay:(Tryz.prog.stopKnobs == [])=true:=by kernel_rfl
theorem ado:joinedFacts Tryz.prog 7 Tryz.f7 (OpenSpec.ofChange Rows.morphAnalyzesSpec).bare Rows.morphAnalyzesRow=true:=by
 unfold joinedFacts
 rw [abP,abQ,abR,abS,abT,abU,abV,abW,abX,aaw,aax,aay]
 kernel_rfl
end Go.Proofs.YtaigoffbhbpplaaGreatDoor
end
