import Derived.Test.YtaigoffbhbpplaaGreatDoorA10
import Derived.Test.YtaigoffbhbpplaaGreatDoorRows
import Derived.WalkKit
import Derived.ProofKit
import Derived.Handy
import Derived.Lay
import Derived.SevenTiedAt
import Derived.OpenShut
import Derived.ChangeMaps5
import Derived.Deep.DeepHandedRow
/-
  Part 11 of the tool: an abstract machine over the model, proved sound, and what it says of the functions that the law reaches. Condition: none but those that each theorem names.
-/
set_option linter.unusedVariables false
set_option linter.unusedSimpArgs false
section
namespace Go.Proofs.YtaigoffbhbpplaaGreatDoor
open Go.ChangeShapes Go.WideShapes Go.ChangeAt Go.RowKit Go.Am
theorem YQ:(Rows.morphAnalyzesRow.inPlace == Tryz.prog.inPlace 7)=true:=by kernel_rfl
theorem YR:(Rows.morphAnalyzesRow.unfollowed == Tryz.prog.unfollowed 7)=true:=by kernel_rfl
theorem YS:(Rows.morphAnalyzesRow.recurses == Tryz.prog.recurses 7)=true:=by kernel_rfl
theorem YT:(Rows.morphAnalyzesRow.named == Tryz.prog.varsNamed 7)=true:=by kernel_rfl
theorem YU:(Rows.morphAnalyzesRow.lifted == Tryz.prog.liftsFinal)=true:=by kernel_rfl
theorem YV:Tryz.prog.stopsHeard=true:=by kernel_rfl
theorem YW:Tryz.prog.mayEnter=true:=by kernel_rfl
theorem YX:laidOutB Tryz.prog=true:=by kernel_rfl
theorem YY:mapsRowed Tryz.prog=true:=by kernel_rfl
theorem Xq:(Rows.morphAnalyzesRow.plainKeys == Tryz.prog.plainKeys)=true:=by kernel_rfl
theorem Xr:(Tryz.prog.stops == [])=true:=by kernel_rfl
theorem Xs:(Tryz.prog.stopKnobs == [])=true:=by kernel_rfl
theorem aaF:joinedFacts Tryz.prog 7 Tryz.f7 (OpenSpec.ofChange Rows.morphAnalyzesSpec).bare Rows.morphAnalyzesRow=true:=by
 unfold joinedFacts;rw [YQ,YR,YS,YT,YU,YV,YW,YX,YY,Xq,Xr,Xs];kernel_rfl
end Go.Proofs.YtaigoffbhbpplaaGreatDoor
end
