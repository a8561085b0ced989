import Derived.Test.YtaigoffbhbpplaaGreatDoorA8
import Derived.WalkKit
import Derived.ProofKit
import Derived.Handy
import Derived.Lay
import Derived.SevenTiedAt
import Derived.OpenShut
import Derived.ChangeMaps5
import Derived.Deep.DeepHandedRow
/-
  Part 9 of the tool: an abstract machine over the model, proved sound, and what it says of the functions that the law reaches. Condition: none but those that each theorem names.
-/
set_option linter.unusedVariables false
set_option linter.unusedSimpArgs false
section
namespace Go.Proofs.YtaigoffbhbpplaaGreatDoor
open Go.ChangeShapes Go.WideShapes Go.ChangeAt Go.RowKit Go.Am
theorem Xk:bt EN:=by constructor<;>rfl
theorem aat:lf EN:=by constructor<;>rfl
theorem Xl:EE EN:=by constructor<;>rfl
theorem abx:SpE EN:=by constructor<;>rfl
theorem aau:tn EN:=by constructor<;>rfl
theorem aav:ov EN:=by constructor<;>rfl
theorem aaw:uE EN:=by constructor<;>rfl
theorem aax:Df EN:=by constructor<;>rfl
theorem aay:EI EN:=by constructor<;>rfl
theorem aaz:G5 EN:=by constructor<;>rfl
theorem aaA:sW EN:=by constructor<;>rfl
theorem aaB:DS EN:=by constructor<;>rfl
theorem aaC:RL EN:=by constructor<;>rfl
theorem aaD(M:cb b5 EN):sX M:=⟨fun s c H=>by
  rw [A8 M rfl];show some (uw.ret (.int .i64 (Lib.indexByte s ((c.toNat:Int).toNat.toUInt8))),H)=_;simp,fun i o H=>by
  rw [A8 M rfl];rfl⟩
theorem YO(M:cb b5 EN):EH M:=⟨fun s c H=>by
  rw [A8 M rfl];show some (uw.ret (.int .i64 (Lib.countByte s ((c.toNat:Int).toNat.toUInt8):Nat)),H)=_;simp,fun n H hn=>by
  rw [A8 M rfl];show (bif true&&Nat.ble n 281474976710656 then some (uw.ret (.rslice H.length 0 n 1 true),H++[.cells (List.replicate n .unk) dD]) else none)=_;rw [acr hn];rfl⟩
theorem Xm{l:Go.Am.Lex}(hl:l.ok 0∧l.kt){w:Str}(hw:w.length≤aQ):dJ Tryz.prog G0 kS [.agg l.row,.str w] [] fun r H'=>r = .ret (.bool true)∧H'=[]:=by
 obtain ⟨M⟩:=Hv b5 EN;have hX:=aaD M;have hY:=YO M;exact M.sound Zc (FV M Xk (WdE.of M Zc (fun _ _ _=>rfl)) aat Xl abx hX hY aau aav aaw (YN M) W0 aax aay rfl aaz aaA aaB aaC rfl hl.1 (abn hl.1) (fun h=>by rw [WQ];exact h) hw (Ys l w) (fun _ hc H=>aas M (abv hl.2 hc) H) (H:=[]) (fun _=>rfl))
theorem F2:sa Tryz.prog:=by constructor<;>kernel_rfl
theorem own:ownKnob Tryz.prog.godebug=none:=by kernel_rfl
theorem YP:laidOutB Tryz.prog=true:=by kernel_rfl
theorem params:Tryz.f7.params = #[ab,a8]:=by kernel_rfl
theorem Xn:∀ t∈Tryz.f7.params.toList,Tryz.prog.readableRec t=true∧t<Tryz.prog.types.size:=fun t ht=>by
 have h:(Tryz.f7.params.toList.all fun t=>Tryz.prog.readableRec t&&decide (t<Tryz.prog.types.size))=true:=by kernel_rfl
 simpa using List.all_eq_true.1 h t ht
theorem aaE:Tryz.prog.underlying Vz=some .bool:=by kernel_rfl
end Go.Proofs.YtaigoffbhbpplaaGreatDoor
end
