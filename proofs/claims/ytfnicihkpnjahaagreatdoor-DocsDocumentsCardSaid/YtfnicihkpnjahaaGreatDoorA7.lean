import Derived.Test.YtfnicihkpnjahaaGreatDoorA6
import Derived.WalkKit
import Derived.ProofKit
import Derived.Handy
import Derived.Lay
import Derived.SevenTiedAt
import Derived.OpenShut
import Derived.ChangeMaps5
import Derived.Deep.DeepHandedRow
/-
  Part 7 of the tool: an abstract machine over the model, proved sound, and what it says of the functions that the law reaches. Condition: none but those that each theorem names.
-/
set_option linter.unusedVariables false
set_option linter.unusedSimpArgs false
section
namespace Go.Proofs.YtfnicihkpnjahaaGreatDoor
open Go.ChangeShapes Go.WideShapes Go.ChangeAt Go.RowKit Go.Am
theorem Lt:kH EN1:=by constructor<;>rfl
theorem JZ:uP EN1:=by constructor<;>rfl
theorem Lu:sL EN1:=by constructor<;>rfl
theorem Lv:HZ EN1:=by constructor<;>rfl
theorem Lw:pq EN1:=by constructor<;>rfl
theorem Lx:wt EN1:=by constructor<;>rfl
theorem Ly:If EN1:=by constructor<;>rfl
theorem Lz:uT EN1:=by constructor<;>rfl
theorem LA(M:bM b4 EN1):wj M:=⟨fun s c H=>by
  rw [tq M rfl];show some (kJ.ret (.int .i64 (Lib.indexByte s ((c.toNat:Int).toNat.toUInt8))),H)=_;simp,fun i o H=>by
  rw [tq M rfl,Iz];rfl⟩
theorem J0(M:bM b4 EN1):Bm M:=⟨fun s H=>by
  rw [tq M rfl];rfl⟩
theorem J1(M:bM b4 EN1):yx M:=⟨fun s c H=>by
  rw [tq M rfl];show some (kJ.ret (.int .i64 (Lib.countByte s ((c.toNat:Int).toNat.toUInt8):Nat)),H)=_;simp⟩
theorem IA{d:Go.Am.Docu}(hd:d.ok 0){o:Go.Am.Docu}(ho:o.ok 0):cB Tryz.prog G0 eo [.agg d.row,.agg o.row] [] fun r H'=>r = .ret (.bool true)∧H'=[]:=by
 obtain ⟨M⟩:=vf b4 EN1;have hX:=LA M;have hD:=J0 M;have hC:=J1 M;have hE:=JY M;exact M.sound Ls (tW M Lt JZ Lu hX hD Lv Lw Lx hC hE Ly Lz hd ho (H:=[]) (fun _=>rfl))
theorem tY:rE Tryz.prog:=by constructor<;>kernel_rfl
theorem own:ownKnob Tryz.prog.godebug=none:=by kernel_rfl
theorem J2:laidOutB Tryz.prog=true:=by kernel_rfl
theorem params:Tryz.f5.params = #[ah,ah]:=by kernel_rfl
theorem IB:∀ t∈Tryz.f5.params.toList,Tryz.prog.readableRec t=true∧t<Tryz.prog.types.size:=fun t ht=>by
 have h:(Tryz.f5.params.toList.all fun t=>Tryz.prog.readableRec t&&decide (t<Tryz.prog.types.size))=true:=by kernel_rfl
 simpa using List.all_eq_true.1 h t ht
theorem u_bool:Tryz.prog.underlying Bb=some .bool:=by kernel_rfl
end Go.Proofs.YtfnicihkpnjahaaGreatDoor
end
