import Derived.Test.YtnknpmlcimogcaaGreatDoorA11
import Derived.Test.YtnknpmlcimogcaaGreatDoorRows
import Derived.WalkKit
import Derived.ProofKit
import Derived.Handy
import Derived.Lay
import Derived.SevenTiedAt
import Derived.OpenShut
import Derived.ChangeMaps5
import Derived.Deep.DeepHandedRow
/-
  Part 12 of the tool: an abstract machine over the model, proved sound, and what it says of the functions that the law reaches. Condition: none but those that each theorem names.
-/
set_option linter.unusedVariables false
set_option linter.unusedSimpArgs false
section
namespace Go.Proofs.YtnknpmlcimogcaaGreatDoor
open Go.ChangeShapes Go.WideShapes Go.ChangeAt Go.RowKit Go.Am
theorem V2:(Rows.morphTextsRow.inPlace == Tryz.prog.inPlace 3)=true:=by kernel_rfl
theorem V3:(Rows.morphTextsRow.unfollowed == Tryz.prog.unfollowed 3)=true:=by kernel_rfl
theorem V4:(Rows.morphTextsRow.recurses == Tryz.prog.recurses 3)=true:=by kernel_rfl
theorem V5:(Rows.morphTextsRow.named == Tryz.prog.varsNamed 3)=true:=by kernel_rfl
theorem V6:(Rows.morphTextsRow.lifted == Tryz.prog.liftsFinal)=true:=by kernel_rfl
theorem V7:Tryz.prog.stopsHeard=true:=by kernel_rfl
theorem V8:Tryz.prog.mayEnter=true:=by kernel_rfl
theorem V9:laidOutB Tryz.prog=true:=by kernel_rfl
theorem Wa:mapsRowed Tryz.prog=true:=by kernel_rfl
theorem Uv:(Rows.morphTextsRow.plainKeys == Tryz.prog.plainKeys)=true:=by kernel_rfl
theorem Uw:(Tryz.prog.stops == [])=true:=by kernel_rfl
theorem Ux:(Tryz.prog.stopKnobs == [])=true:=by kernel_rfl
theorem X5:joinedFacts Tryz.prog 3 Tryz.f3 (OpenSpec.ofChange Rows.morphTextsSpec).bare Rows.morphTextsRow=true:=by
 unfold joinedFacts;rw [V2,V3,V4,V5,V6,V7,V8,V9,Wa,Uv,Uw,Ux];kernel_rfl
end Go.Proofs.YtnknpmlcimogcaaGreatDoor
end
