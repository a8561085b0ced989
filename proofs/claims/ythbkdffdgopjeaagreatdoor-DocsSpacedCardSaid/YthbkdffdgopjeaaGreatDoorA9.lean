import Derived.Test.YthbkdffdgopjeaaGreatDoorA8
import Derived.Test.YthbkdffdgopjeaaGreatDoorRows
import Derived.WalkKit
import Derived.ProofKit
import Derived.Handy
import Derived.Lay
import Derived.SevenTiedAt
import Derived.OpenShut
import Derived.ChangeMaps5
import Derived.Deep.DeepHandedRow
/-
  Part 9 of the tool: an abstract machine over the model, proved sound, and what it says of the functions that the law reaches. Condition: none but those that each theorem names.
-/
set_option linter.unusedVariables false
set_option linter.unusedSimpArgs false
section
namespace Go.Proofs.YthbkdffdgopjeaaGreatDoor
open Go.ChangeShapes Go.WideShapes Go.ChangeAt Go.RowKit Go.Am
theorem Me:(Rows.docsSpacedRow.inPlace == Tryz.prog.inPlace 5)=true:=by kernel_rfl
theorem Mf:(Rows.docsSpacedRow.unfollowed == Tryz.prog.unfollowed 5)=true:=by kernel_rfl
theorem Mg:(Rows.docsSpacedRow.recurses == Tryz.prog.recurses 5)=true:=by kernel_rfl
theorem Mh:(Rows.docsSpacedRow.named == Tryz.prog.varsNamed 5)=true:=by kernel_rfl
theorem Mi:(Rows.docsSpacedRow.lifted == Tryz.prog.liftsFinal)=true:=by kernel_rfl
theorem Mj:Tryz.prog.stopsHeard=true:=by kernel_rfl
theorem Mk:Tryz.prog.mayEnter=true:=by kernel_rfl
theorem Ml:laidOutB Tryz.prog=true:=by kernel_rfl
theorem Mm:mapsRowed Tryz.prog=true:=by kernel_rfl
theorem KB:(Rows.docsSpacedRow.plainKeys == Tryz.prog.plainKeys)=true:=by kernel_rfl
theorem KC:(Tryz.prog.stops == [])=true:=by kernel_rfl
theorem KD:(Tryz.prog.stopKnobs == [])=true:=by kernel_rfl
theorem NJ:joinedFacts Tryz.prog 5 Tryz.f5 (OpenSpec.ofChange Rows.docsSpacedSpec).bare Rows.docsSpacedRow=true:=by
 unfold joinedFacts;rw [Me,Mf,Mg,Mh,Mi,Mj,Mk,Ml,Mm,KB,KC,KD];kernel_rfl
end Go.Proofs.YthbkdffdgopjeaaGreatDoor
end
