import Derived.Test.YtdgcaegjmohbkaaGreatDoorA7
import Derived.WalkKit
import Derived.ProofKit
import Derived.Handy
import Derived.Lay
import Derived.SevenTiedAt
import Derived.OpenShut
import Derived.ChangeMaps5
import Derived.Deep.DeepHandedRow
/-
  Part 8 of the tool: an abstract machine over the model, proved sound, and what it says of the functions that the law reaches. Condition: none but those that each theorem names.
-/
set_option linter.unusedVariables false
set_option linter.unusedSimpArgs false
section
namespace Go.Proofs.YtdgcaegjmohbkaaGreatDoor
open Go.ChangeShapes Go.WideShapes Go.ChangeAt Go.RowKit Go.Am
theorem RI:kY EN:=by constructor<;>rfl
theorem RJ:jf EN:=by constructor<;>rfl
theorem RK:IA EN:=by constructor<;>rfl
theorem RL:mI EN:=by constructor<;>rfl
theorem RN:u6 EN:=by constructor<;>rfl
theorem P6(M:bO bU EN):sR M:=⟨fun s H=>by
  rw [OC M rfl];rfl⟩
theorem N3{d:Go.Am.Docu}(hd:d.ok 0∧d.kt){rs:Sl Brk}(hrs:rs.ok 0 (Brk.ok 0)){w:Int}(hw:I64 w):de Tryz.prog G0 ff [.agg d.row,.slice rs.tag 3 (rs.l.map Brk.row),.int .i64 w] [] fun r H'=>r = .ret (.bool true)∧H'=[]:=by
 obtain ⟨M⟩:=Gb bU EN;have hD:=P6 M;exact M.sound Sn (yt M RI hD RJ RK RL RN hd hrs hw (H:=[]) (fun _=>rfl))
theorem rm:qg Tryz.prog:=by constructor<;>kernel_rfl
theorem own:ownKnob Tryz.prog.godebug=none:=by kernel_rfl
theorem P7:laidOutB Tryz.prog=true:=by kernel_rfl
theorem params:Tryz.f5.params = #[ag,jz,mh]:=by kernel_rfl
theorem N4:∀ t∈Tryz.f5.params.toList,Tryz.prog.readableRec t=true∧t<Tryz.prog.types.size:=fun t ht=>by
 have h:(Tryz.f5.params.toList.all fun t=>Tryz.prog.readableRec t&&decide (t<Tryz.prog.types.size))=true:=by kernel_rfl
 simpa using List.all_eq_true.1 h t ht
theorem u_bool:Tryz.prog.underlying Bd=some .bool:=by kernel_rfl
end Go.Proofs.YtdgcaegjmohbkaaGreatDoor
end
