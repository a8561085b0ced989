import Derived.Test.YtfnicihkpnjahaaGreatDoorA6
import Derived.WalkKit
import Derived.ProofKit
import Derived.Handy
import Derived.Lay
import Derived.SevenTiedAt
import Derived.OpenShut
import Derived.ChangeMaps5
import Derived.Deep.DeepHandedRow
/-
  Part 2 of the tool: an abstract machine over the model, proved sound, and what it says of the functions that the law reaches. Condition: none but those that each theorem names.
-/
set_option linter.unusedVariables false
set_option linter.unusedSimpArgs false
section
namespace Go.Proofs.YtfnicihkpnjahaaGreatDoor
open Go.ChangeShapes Go.WideShapes Go.ChangeAt Go.RowKit Go.Am
theorem Jk:nS EN1:=by constructor<;>rfl
theorem HS:so EN1:=by constructor<;>rfl
theorem Jl:tb EN1:=by constructor<;>rfl
theorem Jo:wK EN1:=by constructor<;>rfl
theorem Jp:HK EN1:=by constructor<;>rfl
theorem Jq(M:bk bK EN1):sk M:=⟨fun s c H=>by
  rw [rU M rfl];show some (jW.ret (.int .i64 (Lib.indexByte s ((c.toNat:Int).toNat.toUInt8))),H)=_;simp,fun i o H=>by
  rw [rU M rfl,Gt];rfl⟩
theorem HT(M:bk bK EN1):B1 M:=⟨fun s H=>by
  rw [rU M rfl];rfl⟩
theorem HU(M:bk bK EN1):xL M:=⟨fun s c H=>by
  rw [rU M rfl];show some (jW.ret (.int .i64 (Lib.countByte s ((c.toNat:Int).toNat.toUInt8):Nat)),H)=_;simp⟩
theorem Gu{s:Str}(hs:s.length≤cf){l:Sl ae}(hl:l.ok 0 (ae.ok 0)):bO Tryz.prog G0 mC [.str s,.slice l.tag 3 (l.l.map ae.row)] [] fun r H'=>r = .ret (.bool true)∧H'=[]:=by
 obtain ⟨M⟩:=tE bK EN1;have hX:=Jq M;have hD:=HT M;have hC:=HU M;have hE:=HR M;exact M.sound Jj (Lk M Jk HS Jl hX hD rfl Jo hC hE Jp hs hl (H:=[]) (fun _=>rfl))
theorem Bd:zI Tryz.prog:=by constructor<;>kernel_rfl
theorem own:ownKnob Tryz.prog.godebug=none:=by kernel_rfl
theorem HV:laidOutB Tryz.prog=true:=by kernel_rfl
theorem params:Tryz.f3.params = #[aI,aP]:=by kernel_rfl
theorem Gv:∀ t∈Tryz.f3.params.toList,Tryz.prog.readableRec t=true∧t<Tryz.prog.types.size:=fun t ht=>by
 have h:(Tryz.f3.params.toList.all fun t=>Tryz.prog.readableRec t&&decide (t<Tryz.prog.types.size))=true:=by kernel_rfl
 simpa using List.all_eq_true.1 h t ht
theorem Md:Tryz.prog.underlying zp=some .bool:=by kernel_rfl
end Go.Proofs.YtfnicihkpnjahaaGreatDoor
end
