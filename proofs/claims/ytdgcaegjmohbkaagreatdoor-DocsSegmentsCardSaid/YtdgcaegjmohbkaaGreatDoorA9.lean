import Derived.Test.YtdgcaegjmohbkaaGreatDoorA8
import Derived.WalkKit
import Derived.ProofKit
import Derived.Handy
import Derived.Lay
import Derived.SevenTiedAt
import Derived.OpenShut
import Derived.ChangeMaps5
import Derived.Deep.DeepHandedRow
/-
  Part 9 of the tool: an abstract machine over the model, proved sound, and what it says of the functions that the law reaches. Condition: none but those that each theorem names.
-/
set_option linter.unusedVariables false
set_option linter.unusedSimpArgs false
section
namespace Go.Proofs.YtdgcaegjmohbkaaGreatDoor
open Go.ChangeShapes Go.WideShapes Go.ChangeAt Go.RowKit Go.Am
theorem Sp:gA EN:=by constructor<;>rfl
theorem Sq:fT EN:=by constructor<;>rfl
theorem Sr:J4 EN:=by constructor<;>rfl
theorem Ss:jT EN:=by constructor<;>rfl
theorem St:qO EN:=by constructor<;>rfl
theorem QU(M:cJ cM EN):vO M:=⟨fun s H=>by
  rw [PK M rfl];rfl⟩
theorem Pb{d:Go.Am.Docu}(hd:d.ok 0∧d.kt){rs:Sl Brk}(hrs:rs.ok 0 (Brk.ok 0)){l:Sl bq}(hl:l.ok 0 (bq.ok 0)):eb Tryz.prog G0 il [.agg d.row,.slice rs.tag 3 (rs.l.map Brk.row),.slice l.tag 2 (l.l.map bq.row)] [] fun r H'=>r = .ret (.bool true)∧H'=[]:=by
 obtain ⟨M⟩:=HQ cM EN;have hD:=QU M;exact M.sound S3 (A3 M Sp hD Sq Sr Ss St hd hrs hl (H:=[]) (fun _=>rfl))
theorem uv:pR Tryz.prog:=by constructor<;>kernel_rfl
theorem own:ownKnob Tryz.prog.godebug=none:=by kernel_rfl
theorem QV:laidOutB Tryz.prog=true:=by kernel_rfl
theorem params:Tryz.f4.params = #[ae,mD,j7]:=by kernel_rfl
theorem Pc:∀ t∈Tryz.f4.params.toList,Tryz.prog.readableRec t=true∧t<Tryz.prog.types.size:=fun t ht=>by
 have h:(Tryz.f4.params.toList.all fun t=>Tryz.prog.readableRec t&&decide (t<Tryz.prog.types.size))=true:=by kernel_rfl
 simpa using List.all_eq_true.1 h t ht
theorem u_bool:Tryz.prog.underlying Dm=some .bool:=by kernel_rfl
end Go.Proofs.YtdgcaegjmohbkaaGreatDoor
end
