import Derived.Test.YtdgcaegjmohbkaaGreatDoorA6
import Derived.WalkKit
import Derived.ProofKit
import Derived.Handy
import Derived.Lay
import Derived.SevenTiedAt
import Derived.OpenShut
import Derived.ChangeMaps5
import Derived.Deep.DeepHandedRow
/-
  Part 7 of the tool: an abstract machine over the model, proved sound, and what it says of the functions that the law reaches. Condition: none but those that each theorem names.
-/
set_option linter.unusedVariables false
set_option linter.unusedSimpArgs false
section
namespace Go.Proofs.YtdgcaegjmohbkaaGreatDoor
open Go.ChangeShapes Go.WideShapes Go.ChangeAt Go.RowKit Go.Am
theorem NO:lP EN:=by constructor<;>rfl
theorem NP:Aw EN:=by constructor<;>rfl
theorem NQ:HO EN:=by constructor<;>rfl
theorem NR:lB EN:=by constructor<;>rfl
theorem NS:zd EN:=by constructor<;>rfl
theorem NT(M:bY cC EN):Cn M:=⟨fun s c H=>by
  rw [B4 M rfl];show some (lZ.ret (.int .i64 (Lib.indexByte s ((c.toNat:Int).toNat.toUInt8))),H)=_;simp,fun i o H=>by
  rw [B4 M rfl];rfl⟩
theorem Me(M:bY cC EN):Av M:=⟨fun s H=>by
  rw [B4 M rfl];rfl⟩
theorem Ku{l:Sl ae}(hl:l.ok 0 (ae.ok 0)){pos:Sl Int}(hpos:pos.ok 0 I64∧(pos.tag = .nil∧pos.l=[]∨pos.tag = .some)){w:Int}(hw:I64 w):cI Tryz.prog G0 fc [.slice l.tag 3 (l.l.map ae.row),.slice pos.tag 1 (pos.l.map bt),.int .i64 w] [] fun r H'=>r = .ret (.bool true)∧H'=[]:=by
 obtain ⟨M⟩:=Dm cC EN;have hX:=NT M;have hD:=Me M;exact M.sound Ou (AB M NO hD hX NP NQ NR NS hl hpos hw (H:=[]) (fun _=>rfl))
theorem ky:CI Tryz.prog:=by constructor<;>kernel_rfl
theorem own:ownKnob Tryz.prog.godebug=none:=by kernel_rfl
theorem Mf:laidOutB Tryz.prog=true:=by kernel_rfl
theorem params:Tryz.f3.params = #[ah,tY,ow]:=by kernel_rfl
theorem Kw:∀ t∈Tryz.f3.params.toList,Tryz.prog.readableRec t=true∧t<Tryz.prog.types.size:=fun t ht=>by
 have h:(Tryz.f3.params.toList.all fun t=>Tryz.prog.readableRec t&&decide (t<Tryz.prog.types.size))=true:=by kernel_rfl
 simpa using List.all_eq_true.1 h t ht
theorem u_bool:Tryz.prog.underlying Cc=some .bool:=by kernel_rfl
end Go.Proofs.YtdgcaegjmohbkaaGreatDoor
end
