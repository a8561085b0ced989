import Derived.Test.YtdgcaegjmohbkaaGreatDoorA8
import Derived.Test.YtdgcaegjmohbkaaGreatDoorRows
import Derived.WalkKit
import Derived.ProofKit
import Derived.Handy
import Derived.Lay
import Derived.SevenTiedAt
import Derived.OpenShut
import Derived.ChangeMaps5
import Derived.Deep.DeepHandedRow
/-
  Part 9 of the tool: an abstract machine over the model, proved sound, and what it says of the functions that the law reaches. Condition: none but those that each theorem names.
-/
set_option linter.unusedVariables false
set_option linter.unusedSimpArgs false
section
namespace Go.Proofs.YtdgcaegjmohbkaaGreatDoor
open Go.ChangeShapes Go.WideShapes Go.ChangeAt Go.RowKit Go.Am
theorem Mg:(Rows.docsGluedRow.inPlace == Tryz.prog.inPlace 3)=true:=by kernel_rfl
theorem Mh:(Rows.docsGluedRow.unfollowed == Tryz.prog.unfollowed 3)=true:=by kernel_rfl
theorem Mi:(Rows.docsGluedRow.recurses == Tryz.prog.recurses 3)=true:=by kernel_rfl
theorem Mj:(Rows.docsGluedRow.named == Tryz.prog.varsNamed 3)=true:=by kernel_rfl
theorem Mk:(Rows.docsGluedRow.lifted == Tryz.prog.liftsFinal)=true:=by kernel_rfl
theorem Ml:Tryz.prog.stopsHeard=true:=by kernel_rfl
theorem Mm:Tryz.prog.mayEnter=true:=by kernel_rfl
theorem Mn:laidOutB Tryz.prog=true:=by kernel_rfl
theorem Mo:mapsRowed Tryz.prog=true:=by kernel_rfl
theorem Kz:(Rows.docsGluedRow.plainKeys == Tryz.prog.plainKeys)=true:=by kernel_rfl
theorem KA:(Tryz.prog.stops == [])=true:=by kernel_rfl
theorem KB:(Tryz.prog.stopKnobs == [])=true:=by kernel_rfl
theorem NU:joinedFacts Tryz.prog 3 Tryz.f3 (OpenSpec.ofChange Rows.docsGluedSpec).bare Rows.docsGluedRow=true:=by
 unfold joinedFacts;rw [Mg,Mh,Mi,Mj,Mk,Ml,Mm,Mn,Mo,Kz,KA,KB];kernel_rfl
end Go.Proofs.YtdgcaegjmohbkaaGreatDoor
end
