import Derived.Test.YtnknpmlcimogcaaGreatDoorA9
import Derived.WalkKit
import Derived.ProofKit
import Derived.Handy
import Derived.Lay
import Derived.SevenTiedAt
import Derived.OpenShut
import Derived.ChangeMaps5
import Derived.Deep.DeepHandedRow
/-
  Part 10 of the tool: an abstract machine over the model, proved sound, and what it says of the functions that the law reaches. Condition: none but those that each theorem names.
-/
set_option linter.unusedVariables false
set_option linter.unusedSimpArgs false
section
namespace Go.Proofs.YtnknpmlcimogcaaGreatDoor
open Go.ChangeShapes Go.WideShapes Go.ChangeAt Go.RowKit Go.Am
theorem Up:dx EN:=by constructor<;>rfl
theorem XX:ov EN:=by constructor<;>rfl
theorem XY:yh EN:=by constructor<;>rfl
theorem Uq:Dp EN:=by constructor<;>rfl
theorem XZ:yg EN:=by constructor<;>rfl
theorem X0:gB EN:=by constructor<;>rfl
theorem X1:qN EN:=by constructor<;>rfl
theorem X2:FN EN:=by constructor<;>rfl
theorem X3(M:cH bM EN):nk M:=⟨fun s c H=>by
  rw [Ch M rfl];show some (uY.ret (.int .i64 (Lib.indexByte s ((c.toNat:Int).toNat.toUInt8))),H)=_;simp,fun i o H=>by
  rw [Ch M rfl];rfl,fun s H h=>by
  rw [Ch M rfl];show (bif true&&Nat.ble s.length 1000000 then some (uY.ret (.tuple [.int .i64 (atV s),atE s]),H) else Q3 mM [.str s] H)=_;rw [aox h];rfl,fun n H h=>by
  rw [Ch M rfl];show (bif true&&true&&Nat.blt n 1000 then some (uY.ret (.str (fJ n)),H) else none)=_;rw [show Nat.blt n 1000=true from aox h];rfl,fun s c H=>by
  rw [Ch M rfl];show some (uY.ret (.int .i64 (Lib.countByte s ((c.toNat:Int).toNat.toUInt8):Nat)),H)=_;simp,fun n H hn=>by
  rw [Ch M rfl];show (bif true&&Nat.ble n 281474976710656 then some (uY.ret (.Za H.length 0 n 1 true),H++[.cells (List.replicate n .ZW) cq]) else none)=_;rw [aox hn];rfl⟩
theorem Ur{s:Zc}(hs:s.length≤aZ){l:Go.Am.Lex}(hl:l.ok 0):dL Tryz.prog G0 kK [.str s,.agg l.row] [] fun r H'=>r = .ret (.bool true)∧H'=[]:=by
 obtain ⟨M⟩:=MS bM EN;have hX:=X3 M;exact M.sound Wu (Jp M Up XX XY Uq XZ X0 hX X1 X2 (WdE.of M Wu (fun _ _ _=>rfl)) rfl hs hl (fun _=>rfl) [])
theorem EF:kz Tryz.prog:=by constructor<;>kernel_rfl
theorem own:ownKnob Tryz.prog.godebug=none:=by kernel_rfl
theorem V1:laidOutB Tryz.prog=true:=by kernel_rfl
theorem params:Tryz.f3.params = #[aI,ab]:=by kernel_rfl
theorem Us:∀ t∈Tryz.f3.params.toList,Tryz.prog.readableRec t=true∧t<Tryz.prog.types.size:=fun t ht=>by
 have h:(Tryz.f3.params.toList.all fun t=>Tryz.prog.readableRec t&&decide (t<Tryz.prog.types.size))=true:=by kernel_rfl
 simpa using amI.1 h t ht
theorem X4:Tryz.prog.underlying el=some .bool:=by kernel_rfl
end Go.Proofs.YtnknpmlcimogcaaGreatDoor
end
