import Derived.Test.YtaooiinlgnjafaaGreatDoorA8
import Derived.Test.YtaooiinlgnjafaaGreatDoorRows
import Derived.WalkKit
import Derived.ProofKit
import Derived.Handy
import Derived.Lay
import Derived.SevenTiedAt
import Derived.OpenShut
import Derived.ChangeMaps5
import Derived.Deep.DeepHandedRow
/-
  Part 9 of the tool: an abstract machine over the model, proved sound, and what it says of the functions that the law reaches. Condition: none but those that each theorem names.
-/
set_option linter.unusedVariables false
set_option linter.unusedSimpArgs false
section
namespace Go.Proofs.YtaooiinlgnjafaaGreatDoor
open Go.ChangeShapes Go.WideShapes Go.ChangeAt Go.RowKit Go.Am
theorem Kn:(Rows.docsParsesRow.inPlace == Tryz.prog.inPlace 3)=true:=by kernel_rfl
theorem Ko:(Rows.docsParsesRow.unfollowed == Tryz.prog.unfollowed 3)=true:=by kernel_rfl
theorem Kq:(Rows.docsParsesRow.recurses == Tryz.prog.recurses 3)=true:=by kernel_rfl
theorem Kr:(Rows.docsParsesRow.named == Tryz.prog.varsNamed 3)=true:=by kernel_rfl
theorem Ks:(Rows.docsParsesRow.lifted == Tryz.prog.liftsFinal)=true:=by kernel_rfl
theorem Ku:Tryz.prog.stopsHeard=true:=by kernel_rfl
theorem Kw:Tryz.prog.mayEnter=true:=by kernel_rfl
theorem Kx:laidOutB Tryz.prog=true:=by kernel_rfl
theorem Ky:mapsRowed Tryz.prog=true:=by kernel_rfl
theorem I6:(Rows.docsParsesRow.plainKeys == Tryz.prog.plainKeys)=true:=by kernel_rfl
theorem I7:(Tryz.prog.stops == [])=true:=by kernel_rfl
theorem I8:(Tryz.prog.stopKnobs == [])=true:=by kernel_rfl
theorem L0:joinedFacts Tryz.prog 3 Tryz.f3 (OpenSpec.ofChange Rows.docsParsesSpec).bare Rows.docsParsesRow=true:=by
 unfold joinedFacts;rw [Kn,Ko,Kq,Kr,Ks,Ku,Kw,Kx,Ky,I6,I7,I8];kernel_rfl
end Go.Proofs.YtaooiinlgnjafaaGreatDoor
end
