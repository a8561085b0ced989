import Derived.Test.YthbkdffdgopjeaaGreatDoorA6
import Derived.WalkKit
import Derived.ProofKit
import Derived.Handy
import Derived.Lay
import Derived.SevenTiedAt
import Derived.OpenShut
import Derived.ChangeMaps5
import Derived.Deep.DeepHandedRow
/-
  Part 7 of the tool: an abstract machine over the model, proved sound, and what it says of the functions that the law reaches. Condition: none but those that each theorem names.
-/
set_option linter.unusedVariables false
set_option linter.unusedSimpArgs false
section
namespace Go.Proofs.YthbkdffdgopjeaaGreatDoor
open Go.ChangeShapes Go.WideShapes Go.ChangeAt Go.RowKit Go.Am
theorem M6:fV EN:=by constructor<;>rfl
theorem LD:fM EN:=by constructor<;>rfl
theorem M7:kR EN:=by constructor<;>rfl
theorem M8:Lp EN:=by constructor<;>rfl
theorem M9:uI EN:=by constructor<;>rfl
theorem NK:WsE EN:=by constructor<;>rfl
theorem Na(M:br bP EN):sg M:=⟨fun s c H=>by
  rw [Ct M rfl];show some (oD.ret (.int .i64 (Lib.indexByte s ((c.toNat:Int).toNat.toUInt8))),H)=_;simp,fun i o H=>by
  rw [Ct M rfl];rfl⟩
theorem LF(M:br bP EN):wA M:=⟨fun s H=>by
  rw [Ct M rfl];rfl⟩
theorem J6{l:Sl ag}(hl:l.ok 0 (ag.ok 0)){words:Sl Str}(hwords:words.ok 0 (fun s=>s.length≤bh)):cQ Tryz.prog G0 fY [.slice l.tag 3 (l.l.map ag.row),.slice words.tag 1 (words.l.map aA)] [] fun r H'=>r = .ret (.bool true)∧H'=[]:=by
 obtain ⟨M⟩:=DG bP EN;have hX:=Na M;have hD:=LF M;exact M.sound NJ (Bb M M6 LD hX hD M7 M8 M9 NK hl hwords (H:=[]) (fun _=>rfl))
theorem vE:x6 Tryz.prog:=by constructor<;>kernel_rfl
theorem own:ownKnob Tryz.prog.godebug=none:=by kernel_rfl
theorem LG:laidOutB Tryz.prog=true:=by kernel_rfl
theorem params:Tryz.f6.params = #[ao,bn]:=by kernel_rfl
theorem J7:∀ t∈Tryz.f6.params.toList,Tryz.prog.readableRec t=true∧t<Tryz.prog.types.size:=fun t ht=>by
 have h:(Tryz.f6.params.toList.all fun t=>Tryz.prog.readableRec t&&decide (t<Tryz.prog.types.size))=true:=by kernel_rfl
 simpa using List.all_eq_true.1 h t ht
theorem u_bool:Tryz.prog.underlying CG=some .bool:=by kernel_rfl
end Go.Proofs.YthbkdffdgopjeaaGreatDoor
end
