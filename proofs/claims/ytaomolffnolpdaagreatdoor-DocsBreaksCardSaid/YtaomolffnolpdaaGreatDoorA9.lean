import Derived.Test.YtaomolffnolpdaaGreatDoorA8
import Derived.Test.YtaomolffnolpdaaGreatDoorRows
import Derived.WalkKit
import Derived.ProofKit
import Derived.Handy
import Derived.Lay
import Derived.SevenTiedAt
import Derived.OpenShut
import Derived.ChangeMaps5
import Derived.Deep.DeepHandedRow
/-
  Part 9 of the tool: an abstract machine over the model, proved sound, and what it says of the functions that the law reaches. Condition: none but those that each theorem names.
-/
set_option linter.unusedVariables false
set_option linter.unusedSimpArgs false
section
set_option linter.unusedVariables false
set_option linter.unusedSimpArgs false
namespace Go.Proofs.YtaomolffnolpdaaGreatDoor
open Go.ChangeShapes Go.WideShapes Go.ChangeAt Go.RowKit Go.Am

theorem joined1 : (Rows.docsBreaksRow.inPlace == Tryz.prog.inPlace 3) = true := by kernel_rfl
theorem joined2 : (Rows.docsBreaksRow.unfollowed == Tryz.prog.unfollowed 3) = true := by kernel_rfl
theorem joined3 : (Rows.docsBreaksRow.recurses == Tryz.prog.recurses 3) = true := by kernel_rfl
theorem joined4 : (Rows.docsBreaksRow.named == Tryz.prog.varsNamed 3) = true := by kernel_rfl
theorem joined5 : (Rows.docsBreaksRow.lifted == Tryz.prog.liftsFinal) = true := by kernel_rfl
theorem joined6 : Tryz.prog.stopsHeard = true := by kernel_rfl
theorem joined7 : Tryz.prog.mayEnter = true := by kernel_rfl
theorem joined8 : laidOutB Tryz.prog = true := by kernel_rfl
theorem joined9 : mapsRowed Tryz.prog = true := by kernel_rfl
theorem joined10 : (Rows.docsBreaksRow.plainKeys == Tryz.prog.plainKeys) = true := by kernel_rfl
theorem joined11 : (Tryz.prog.stops == []) = true := by kernel_rfl
theorem joined12 : (Tryz.prog.stopKnobs == []) = true := by kernel_rfl
theorem joined : joinedFacts Tryz.prog 3 Tryz.f3 (OpenSpec.ofChange Rows.docsBreaksSpec).bare Rows.docsBreaksRow = true := by
  unfold joinedFacts
  rw [joined1, joined2, joined3, joined4, joined5, joined6, joined7, joined8, joined9, joined10, joined11, joined12]
  kernel_rfl
end Go.Proofs.YtaomolffnolpdaaGreatDoor
end

