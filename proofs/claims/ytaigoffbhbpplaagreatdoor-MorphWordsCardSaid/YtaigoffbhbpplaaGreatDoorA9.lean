import Derived.Test.YtaigoffbhbpplaaGreatDoorA8
import Derived.WalkKit
import Derived.ProofKit
import Derived.Handy
import Derived.Lay
import Derived.SevenTiedAt
import Derived.OpenShut
import Derived.ChangeMaps5
import Derived.Deep.DeepHandedRow
/-
  Part 9 of the tool: an abstract machine over the model, proved sound, and what it says of the functions that the law reaches. Condition: none but those that each theorem names.
-/
set_option linter.unusedVariables false
set_option linter.unusedSimpArgs false
section
namespace Go.Proofs.YtaigoffbhbpplaaGreatDoor
open Go.ChangeShapes Go.WideShapes Go.ChangeAt Go.RowKit Go.Am
theorem US:bu EN:=by constructor<;>rfl
theorem Yn:mU EN:=by constructor<;>rfl
theorem UT:C9 EN:=by constructor<;>rfl
theorem Zc:SpE EN:=by constructor<;>rfl
theorem Yo:s6 EN:=by constructor<;>rfl
theorem Yp:ui EN:=by constructor<;>rfl
theorem Yq:V0 EN:=by constructor<;>rfl
theorem Yr:V4 EN:=by constructor<;>rfl
theorem Ys:uB EN:=by constructor<;>rfl
theorem Yt:Cn EN:=by constructor<;>rfl
theorem Yu:XV EN:=by constructor<;>rfl
theorem Yv:PN EN:=by constructor<;>rfl
theorem Yw(M:bR bN EN):sM M:=⟨fun s c H=>by
  rw [DG M rfl];show some (s8.ret (.int .i64 (Lib.indexByte s ((c.toNat:Int).toNat.toUInt8))),H)=_;simp,fun i o H=>by
  rw [DG M rfl];rfl⟩
theorem Wy(M:bR bN EN):GC M:=⟨fun s c H=>by
  rw [DG M rfl];show some (s8.ret (.int .i64 (Lib.countByte s ((c.toNat:Int).toNat.toUInt8):Nat)),H)=_;simp,fun n H hn=>by
  rw [DG M rfl];show (bif true&&Nat.ble n 281474976710656 then some (s8.ret (.rslice H.length 0 n 1 true),H++[.cells (List.replicate n .unk) dj]) else none)=_;rw [Nat.ble_eq_true_of_le hn];rfl⟩
theorem UU{l:Go.Am.Lex}(hl:l.ok 0∧l.kt){w:Str}(hw:w.length≤aQ):dC Tryz.prog G0 lA [.agg l.row,.str w] [] fun r H'=>r = .ret (.bool true)∧H'=[]:=by
 obtain ⟨M⟩:=FN bN EN;have hX:=Yw M;have hY:=Wy M;exact M.sound Xa (Jg M US (WdE.of M Xa (fun _ _ _=>rfl)) Yn UT Zc hX hY Yo Yp Yq Yr Ys Yt Yu Yv rfl hl.1 (Y5 hl.1) (fun h=>by rw [Ul];exact h) hw (V8 l) (fun _ hc H=>Ym M (Zb hl.2 hc) H) (H:=[]) (fun _=>rfl))
theorem Ej:qt Tryz.prog:=by constructor<;>kernel_rfl
theorem own:ownKnob Tryz.prog.godebug=none:=by kernel_rfl
theorem Wz:laidOutB Tryz.prog=true:=by kernel_rfl
theorem params:Tryz.f5.params = #[ae,aE]:=by kernel_rfl
theorem UV:∀ t∈Tryz.f5.params.toList,Tryz.prog.readableRec t=true∧t<Tryz.prog.types.size:=fun t ht=>by
 have h:(Tryz.f5.params.toList.all fun t=>Tryz.prog.readableRec t&&decide (t<Tryz.prog.types.size))=true:=by kernel_rfl
 simpa using List.all_eq_true.1 h t ht
theorem Yx:Tryz.prog.underlying LQ=some .bool:=by kernel_rfl
end Go.Proofs.YtaigoffbhbpplaaGreatDoor
end
