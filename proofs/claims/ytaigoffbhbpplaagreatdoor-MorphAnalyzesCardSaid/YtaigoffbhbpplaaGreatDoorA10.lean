import Derived.Test.YtaigoffbhbpplaaGreatDoorA9
import Derived.WalkKit
import Derived.ProofKit
import Derived.Handy
import Derived.Lay
import Derived.SevenTiedAt
import Derived.OpenShut
import Derived.ChangeMaps5
import Derived.Deep.DeepHandedRow
/-
  Part 10 of the tool: an abstract machine over the model, proved sound, and what it says of the functions that the law reaches. Condition: none but those that each theorem names.
-/
set_option linter.unusedVariables false
set_option linter.unusedSimpArgs false
section
namespace Go.Proofs.YtaigoffbhbpplaaGreatDoor
open Go.ChangeShapes Go.WideShapes Go.ChangeAt Go.RowKit Go.Am
theorem aaq:bK EN:=by constructor<;>rfl
theorem adb:lV EN:=by constructor<;>rfl
theorem aar:IT EN:=by constructor<;>rfl
theorem aee:SpE EN:=by constructor<;>rfl
theorem adc:uh EN:=by constructor<;>rfl
theorem ade:o6 EN:=by constructor<;>rfl
theorem adf:vO EN:=by constructor<;>rfl
theorem adg:GM EN:=by constructor<;>rfl
theorem adh:IX EN:=by constructor<;>rfl
theorem adi:Lx EN:=by constructor<;>rfl
theorem adj:tH EN:=by constructor<;>rfl
theorem adk:HP EN:=by constructor<;>rfl
theorem adl:VE EN:=by constructor<;>rfl
theorem adm(M:cG cB EN):tI M:=⟨fun s c H=>by
  rw [El M rfl]
  show some (vH.ret (.int .i64 (Lib.indexByte s ((c.toNat:Int).toNat.toUInt8))),H)=_
  simp,fun i o H=>by
  rw [El M rfl]
  rfl⟩
theorem abN(M:cG cB EN):IW M:=⟨fun s c H=>by
  rw [El M rfl]
  show some (vH.ret (.int .i64 (Lib.countByte s ((c.toNat:Int).toNat.toUInt8):Nat)),H)=_
  simp,fun n H hn=>by
  rw [El M rfl]
  show (bif true&&Nat.ble n 281474976710656 then some (vH.ret (.rslice H.length 0 n 1 true),H++[.cells (List.replicate n .unk) eN]) else none)=_
  rw [Nat.ble_eq_true_of_le hn]
  rfl⟩
theorem aas{l:Go.Am.Lex}(hl:l.ok 0∧l.kt){w:Str}(hw:w.length≤aX):eV Tryz.prog G0 lI [.agg l.row,.str w] [] fun r H'=>r = .ret (.bool true)∧H'=[]:=by
 obtain ⟨M⟩:=L6 cB EN
 have hX:=adm M
 have hY:=abN M
 exact M.sound acb (Kn M aaq (WdE.of M acb (fun _ _ _=>rfl)) adb aar aee hX hY adc ade adf (abM M) aak adg adh rfl adi adj adk adl rfl hl.1 (ad5 hl.1) (fun h=>by rw [aaa];exact h) hw (abw l w) (fun _ hc H=>ada M (aec hl.2 hc) H) (H:=[]) (fun _=>rfl))
theorem KD:sV Tryz.prog:=by constructor<;>kernel_rfl
theorem own:ownKnob Tryz.prog.godebug=none:=by kernel_rfl
theorem abO:laidOutB Tryz.prog=true:=by kernel_rfl
theorem params:Tryz.f7.params = #[am,bv]:=by kernel_rfl
theorem aat:∀ t∈Tryz.f7.params.toList,Tryz.prog.readableRec t=true∧t<Tryz.prog.types.size:=fun t ht=>by
 have h:(Tryz.f7.params.toList.all fun t=>Tryz.prog.readableRec t&&decide (t<Tryz.prog.types.size))=true:=by kernel_rfl
 simpa using List.all_eq_true.1 h t ht
theorem adn:Tryz.prog.underlying Za=some .bool:=by kernel_rfl
end Go.Proofs.YtaigoffbhbpplaaGreatDoor
end
