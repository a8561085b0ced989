import Derived.Test.YtaooiinlgnjafaaGreatDoorA6
import Derived.WalkKit
import Derived.ProofKit
import Derived.Handy
import Derived.Lay
import Derived.SevenTiedAt
import Derived.OpenShut
import Derived.ChangeMaps5
import Derived.Deep.DeepHandedRow
/-
  Part 7 of the tool: an abstract machine over the model, proved sound, and what it says of the functions that the law reaches. Condition: none but those that each theorem names.
-/
set_option linter.unusedVariables false
set_option linter.unusedSimpArgs false
section
namespace Go.Proofs.YtaooiinlgnjafaaGreatDoor
open Go.ChangeShapes Go.WideShapes Go.ChangeAt Go.RowKit Go.Am
theorem LU:j6 EN:=by constructor<;>rfl
theorem Kj:gW EN:=by constructor<;>rfl
theorem LV:wL EN:=by constructor<;>rfl
theorem LW:pU EN:=by constructor<;>rfl
theorem LX:sj EN:=by constructor<;>rfl
theorem LY(M:bo bz EN):oB M:=⟨fun s c H=>by
  rw [wU M rfl];show some (mD.ret (.int .i64 (Lib.indexByte s ((c.toNat:Int).toNat.toUInt8))),H)=_;simp,fun i o H=>by
  rw [wU M rfl];rfl⟩
theorem Kk(M:bo bz EN):IG M:=⟨fun s c H=>by
  rw [wU M rfl];show some (mD.ret (.int .i64 (Lib.countByte s ((c.toNat:Int).toNat.toUInt8):Nat)),H)=_;simp⟩
theorem Kl(M:bo bz EN):vi M:=⟨fun s H=>by
  rw [wU M rfl];rfl⟩
theorem I2{s:Str}(hs:s.length≤bL):cR Tryz.prog G0 eY [.str s] [] fun r H'=>r = .ret (.bool true)∧H'=[]:=by
 obtain ⟨M⟩:=Cs bz EN;have hX:=LY M;have hY:=Kk M;have hD:=Kl M;exact M.sound MA (y9 M LU Kj LV rfl LW LX hX hD hY hs (H:=[]) (fun _=>rfl))
theorem Dh:Kg Tryz.prog:=by constructor<;>kernel_rfl
theorem own:ownKnob Tryz.prog.godebug=none:=by kernel_rfl
theorem Km:laidOutB Tryz.prog=true:=by kernel_rfl
theorem params:Tryz.f3.params = #[aW]:=by kernel_rfl
theorem I3:∀ t∈Tryz.f3.params.toList,Tryz.prog.readableRec t=true∧t<Tryz.prog.types.size:=fun t ht=>by
 have h:(Tryz.f3.params.toList.all fun t=>Tryz.prog.readableRec t&&decide (t<Tryz.prog.types.size))=true:=by kernel_rfl
 simpa using List.all_eq_true.1 h t ht
theorem LZ:Tryz.prog.underlying Lk=some .bool:=by kernel_rfl
end Go.Proofs.YtaooiinlgnjafaaGreatDoor
end
