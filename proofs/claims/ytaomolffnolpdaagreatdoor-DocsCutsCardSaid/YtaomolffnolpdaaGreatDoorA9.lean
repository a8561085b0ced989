import Derived.Test.YtaomolffnolpdaaGreatDoorA8
import Derived.Test.YtaomolffnolpdaaGreatDoorRows
import Derived.WalkKit
import Derived.ProofKit
import Derived.Handy
import Derived.Lay
import Derived.SevenTiedAt
import Derived.OpenShut
import Derived.ChangeMaps5
import Derived.Deep.DeepHandedRow
/-
  Part 9 of the tool: an abstract machine over the model, proved sound, and what it says of the functions that the law reaches. Condition: none but those that each theorem names.
-/
set_option linter.unusedVariables false
set_option linter.unusedSimpArgs false
section
set_option linter.unusedVariables false
set_option linter.unusedSimpArgs false
namespace Go.Proofs.YtaomolffnolpdaaGreatDoor
open Go.ChangeShapes Go.WideShapes Go.ChangeAt Go.RowKit Go.Am

theorem joined1 : (Rows.docsCutsRow.inPlace == Tryz.prog.inPlace 5) = true := by kernel_rfl
theorem joined2 : (Rows.docsCutsRow.unfollowed == Tryz.prog.unfollowed 5) = true := by kernel_rfl
theorem joined3 : (Rows.docsCutsRow.recurses == Tryz.prog.recurses 5) = true := by kernel_rfl
theorem joined4 : (Rows.docsCutsRow.named == Tryz.prog.varsNamed 5) = true := by kernel_rfl
theorem joined5 : (Rows.docsCutsRow.lifted == Tryz.prog.liftsFinal) = true := by kernel_rfl
theorem joined6 : Tryz.prog.stopsHeard = true := by kernel_rfl
theorem joined7 : Tryz.prog.mayEnter = true := by kernel_rfl
theorem joined8 : laidOutB Tryz.prog = true := by kernel_rfl
theorem joined9 : mapsRowed Tryz.prog = true := by kernel_rfl
theorem joined10 : (Rows.docsCutsRow.plainKeys == Tryz.prog.plainKeys) = true := by kernel_rfl
theorem joined11 : (Tryz.prog.stops == []) = true := by kernel_rfl
theorem joined12 : (Tryz.prog.stopKnobs == []) = true := by kernel_rfl
theorem joined : joinedFacts Tryz.prog 5 Tryz.f5 (OpenSpec.ofChange Rows.docsCutsSpec).bare Rows.docsCutsRow = true := by
  unfold joinedFacts
  rw [joined1, joined2, joined3, joined4, joined5, joined6, joined7, joined8, joined9, joined10, joined11, joined12]
  kernel_rfl
end Go.Proofs.YtaomolffnolpdaaGreatDoor
end

