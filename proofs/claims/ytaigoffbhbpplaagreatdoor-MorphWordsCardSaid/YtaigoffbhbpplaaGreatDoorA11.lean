import Derived.Test.YtaigoffbhbpplaaGreatDoorA10
import Derived.Test.YtaigoffbhbpplaaGreatDoorRows
import Derived.WalkKit
import Derived.ProofKit
import Derived.Handy
import Derived.Lay
import Derived.SevenTiedAt
import Derived.OpenShut
import Derived.ChangeMaps5
import Derived.Deep.DeepHandedRow
/-
  Part 11 of the tool: an abstract machine over the model, proved sound, and what it says of the functions that the law reaches. Condition: none but those that each theorem names.
-/
set_option linter.unusedVariables false
set_option linter.unusedSimpArgs false
section
namespace Go.Proofs.YtaigoffbhbpplaaGreatDoor
open Go.ChangeShapes Go.WideShapes Go.ChangeAt Go.RowKit Go.Am
theorem WA:(Rows.morphWordsRow.inPlace == Tryz.prog.inPlace 5)=true:=by kernel_rfl
theorem WB:(Rows.morphWordsRow.unfollowed == Tryz.prog.unfollowed 5)=true:=by kernel_rfl
theorem WC:(Rows.morphWordsRow.recurses == Tryz.prog.recurses 5)=true:=by kernel_rfl
theorem WD:(Rows.morphWordsRow.named == Tryz.prog.varsNamed 5)=true:=by kernel_rfl
theorem WE:(Rows.morphWordsRow.lifted == Tryz.prog.liftsFinal)=true:=by kernel_rfl
theorem WG:Tryz.prog.stopsHeard=true:=by kernel_rfl
theorem WH:Tryz.prog.mayEnter=true:=by kernel_rfl
theorem WI:laidOutB Tryz.prog=true:=by kernel_rfl
theorem WJ:mapsRowed Tryz.prog=true:=by kernel_rfl
theorem UY:(Rows.morphWordsRow.plainKeys == Tryz.prog.plainKeys)=true:=by kernel_rfl
theorem UZ:(Tryz.prog.stops == [])=true:=by kernel_rfl
theorem U0:(Tryz.prog.stopKnobs == [])=true:=by kernel_rfl
theorem Yy:joinedFacts Tryz.prog 5 Tryz.f5 (OpenSpec.ofChange Rows.morphWordsSpec).bare Rows.morphWordsRow=true:=by
 unfold joinedFacts;rw [WA,WB,WC,WD,WE,WG,WH,WI,WJ,UY,UZ,U0];kernel_rfl
end Go.Proofs.YtaigoffbhbpplaaGreatDoor
end
