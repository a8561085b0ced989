import Derived.Test.YthbkdffdgopjeaaGreatDoorA8
import Derived.Test.YthbkdffdgopjeaaGreatDoorRows
import Derived.WalkKit
import Derived.ProofKit
import Derived.Handy
import Derived.Lay
import Derived.SevenTiedAt
import Derived.OpenShut
import Derived.ChangeMaps5
import Derived.Deep.DeepHandedRow
/-
  Part 9 of the tool: an abstract machine over the model, proved sound, and what it says of the functions that the law reaches. Condition: none but those that each theorem names.
-/
set_option linter.unusedVariables false
set_option linter.unusedSimpArgs false
section
namespace Go.Proofs.YthbkdffdgopjeaaGreatDoor
open Go.ChangeShapes Go.WideShapes Go.ChangeAt Go.RowKit Go.Am
theorem LI:(Rows.docsWordsRow.inPlace == Tryz.prog.inPlace 6)=true:=by kernel_rfl
theorem LJ:(Rows.docsWordsRow.unfollowed == Tryz.prog.unfollowed 6)=true:=by kernel_rfl
theorem LL:(Rows.docsWordsRow.recurses == Tryz.prog.recurses 6)=true:=by kernel_rfl
theorem LM:(Rows.docsWordsRow.named == Tryz.prog.varsNamed 6)=true:=by kernel_rfl
theorem LN:(Rows.docsWordsRow.lifted == Tryz.prog.liftsFinal)=true:=by kernel_rfl
theorem LO:Tryz.prog.stopsHeard=true:=by kernel_rfl
theorem LP:Tryz.prog.mayEnter=true:=by kernel_rfl
theorem LQ:laidOutB Tryz.prog=true:=by kernel_rfl
theorem LR:mapsRowed Tryz.prog=true:=by kernel_rfl
theorem Ka:(Rows.docsWordsRow.plainKeys == Tryz.prog.plainKeys)=true:=by kernel_rfl
theorem Kb:(Tryz.prog.stops == [])=true:=by kernel_rfl
theorem Kc:(Tryz.prog.stopKnobs == [])=true:=by kernel_rfl
theorem Nb:joinedFacts Tryz.prog 6 Tryz.f6 (OpenSpec.ofChange Rows.docsWordsSpec).bare Rows.docsWordsRow=true:=by
 unfold joinedFacts;rw [LI,LJ,LL,LM,LN,LO,LP,LQ,LR,Ka,Kb,Kc];kernel_rfl
end Go.Proofs.YthbkdffdgopjeaaGreatDoor
end
