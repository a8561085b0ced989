import Derived.Test.YthbkdffdgopjeaaGreatDoorA6
import Derived.WalkKit
import Derived.ProofKit
import Derived.Handy
import Derived.Lay
import Derived.SevenTiedAt
import Derived.OpenShut
import Derived.ChangeMaps5
import Derived.Deep.DeepHandedRow
/-
  Part 7 of the tool: an abstract machine over the model, proved sound, and what it says of the functions that the law reaches. Condition: none but those that each theorem names.
-/
set_option linter.unusedVariables false
set_option linter.unusedSimpArgs false
section
namespace Go.Proofs.YthbkdffdgopjeaaGreatDoor
open Go.ChangeShapes Go.WideShapes Go.ChangeAt Go.RowKit Go.Am
theorem NC:lG EN:=by constructor<;>rfl
theorem Mb:mU EN:=by constructor<;>rfl
theorem ND:qV EN:=by constructor<;>rfl
theorem NF:JV EN:=by constructor<;>rfl
theorem NG:wu EN:=by constructor<;>rfl
theorem Oh:WsE EN:=by constructor<;>rfl
theorem NH:Oe EN:=by constructor<;>rfl
theorem NI(M:a8 bn EN):tK M:=⟨fun s c H=>by
  rw [Ch M rfl];show some (nC.ret (.int .i64 (Lib.indexByte s ((c.toNat:Int).toNat.toUInt8))),H)=_;simp,fun i o H=>by
  rw [Ch M rfl];rfl⟩
theorem Mc(M:a8 bn EN):wk M:=⟨fun s H=>by
  rw [Ch M rfl];rfl⟩
theorem Kx{l:Sl ah}(hl:l.ok 0 (ah.ok 0)){words:Sl Str}(hwords:words.ok 0 (fun s=>s.length≤bJ)):cg Tryz.prog G0 eK [.slice l.tag 3 (l.l.map ah.row),.slice words.tag 1 (words.l.map bh)] [] fun r H'=>r = .ret (.bool true)∧H'=[]:=by
 obtain ⟨M⟩:=DE bn EN;have hX:=NI M;have hD:=Mc M;exact M.sound Og (Ad M NC Mb hX hD ND NF NG Oh NH hl hwords (H:=[]) (fun _=>rfl))
theorem vx:xW Tryz.prog:=by constructor<;>kernel_rfl
theorem own:ownKnob Tryz.prog.godebug=none:=by kernel_rfl
theorem Md:laidOutB Tryz.prog=true:=by kernel_rfl
theorem params:Tryz.f5.params = #[aj,bb]:=by kernel_rfl
theorem Ky:∀ t∈Tryz.f5.params.toList,Tryz.prog.readableRec t=true∧t<Tryz.prog.types.size:=fun t ht=>by
 have h:(Tryz.f5.params.toList.all fun t=>Tryz.prog.readableRec t&&decide (t<Tryz.prog.types.size))=true:=by kernel_rfl
 simpa using List.all_eq_true.1 h t ht
theorem u_bool:Tryz.prog.underlying Cv=some .bool:=by kernel_rfl
end Go.Proofs.YthbkdffdgopjeaaGreatDoor
end
