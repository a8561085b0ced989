import Derived.Test.YtnknpmlcimogcaaGreatDoorA10
import Derived.Test.YtnknpmlcimogcaaGreatDoorRows
import Derived.WalkKit
import Derived.ProofKit
import Derived.Handy
import Derived.Lay
import Derived.SevenTiedAt
import Derived.OpenShut
import Derived.ChangeMaps5
import Derived.Deep.DeepHandedRow
/-
  Part 11 of the tool: an abstract machine over the model, proved sound, and what it says of the functions that the law reaches. Condition: none but those that each theorem names.
-/
set_option linter.unusedVariables false
set_option linter.unusedSimpArgs false
section
namespace Go.Proofs.YtnknpmlcimogcaaGreatDoor
open Go.ChangeShapes Go.WideShapes Go.ChangeAt Go.RowKit Go.Am
theorem TH:(Rows.morphBackRow.inPlace == Tryz.prog.inPlace 4)=true:=by kernel_rfl
theorem TI:(Rows.morphBackRow.unfollowed == Tryz.prog.unfollowed 4)=true:=by kernel_rfl
theorem TJ:(Rows.morphBackRow.recurses == Tryz.prog.recurses 4)=true:=by kernel_rfl
theorem TK:(Rows.morphBackRow.named == Tryz.prog.varsNamed 4)=true:=by kernel_rfl
theorem TL:(Rows.morphBackRow.lifted == Tryz.prog.liftsFinal)=true:=by kernel_rfl
theorem TM:Tryz.prog.stopsHeard=true:=by kernel_rfl
theorem TN:Tryz.prog.mayEnter=true:=by kernel_rfl
theorem TO:laidOutB Tryz.prog=true:=by kernel_rfl
theorem TP:mapsRowed Tryz.prog=true:=by kernel_rfl
theorem Se:(Rows.morphBackRow.plainKeys == Tryz.prog.plainKeys)=true:=by kernel_rfl
theorem Sf:(Tryz.prog.stops == [])=true:=by kernel_rfl
theorem Sg:(Tryz.prog.stopKnobs == [])=true:=by kernel_rfl
theorem VO:joinedFacts Tryz.prog 4 Tryz.f4 (OpenSpec.ofChange Rows.morphBackSpec).bare Rows.morphBackRow=true:=by
 unfold joinedFacts;rw [TH,TI,TJ,TK,TL,TM,TN,TO,TP,Se,Sf,Sg];kernel_rfl
end Go.Proofs.YtnknpmlcimogcaaGreatDoor
end
