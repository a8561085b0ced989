import Derived.Test.YtnknpmlcimogcaaGreatDoorA8
import Derived.WalkKit
import Derived.ProofKit
import Derived.Handy
import Derived.Lay
import Derived.SevenTiedAt
import Derived.OpenShut
import Derived.ChangeMaps5
import Derived.Deep.DeepHandedRow
/-
  Part 9 of the tool: an abstract machine over the model, proved sound, and what it says of the functions that the law reaches. Condition: none but those that each theorem names.
-/
set_option linter.unusedVariables false
set_option linter.unusedSimpArgs false
section
namespace Go.Proofs.YtnknpmlcimogcaaGreatDoor
open Go.ChangeShapes Go.WideShapes Go.ChangeAt Go.RowKit Go.Am
theorem R8:gj EN:=by constructor<;>rfl
theorem VG:lE EN:=by constructor<;>rfl
theorem R9:BS EN:=by constructor<;>rfl
theorem VH:vL EN:=by constructor<;>rfl
theorem VI:nI EN:=by constructor<;>rfl
theorem VJ:w8 EN:=by constructor<;>rfl
theorem VK:EL EN:=by constructor<;>rfl
theorem VM(M:cE bT EN):kY M:=⟨fun s c H=>by
  rw [AN M rfl];show some (qh.ret (.int .i64 (Lib.indexByte s ((c.toNat:Int).toNat.toUInt8))),H)=_;simp,fun i o H=>by
  rw [AN M rfl];rfl,fun s H h=>by
  rw [AN M rfl];show (bif true&&Nat.ble s.length 1000000 then some (qh.ret (.tuple [.int .i64 (atV s),atE s]),H) else O2 j8 [.str s] H)=_;rw [Nat.ble_eq_true_of_le h];rfl,fun n H h=>by
  rw [AN M rfl];show (bif true&&true&&Nat.blt n 1000 then some (qh.ret (.str (fq n)),H) else none)=_;rw [show Nat.blt n 1000=true from Nat.ble_eq_true_of_le h];rfl,fun s c H=>by
  rw [AN M rfl];show some (qh.ret (.int .i64 (Lib.countByte s ((c.toNat:Int).toNat.toUInt8):Nat)),H)=_;simp,fun n H hn=>by
  rw [AN M rfl];show (bif true&&Nat.ble n 281474976710656 then some (qh.ret (.rslice H.length 0 n 1 true),H++[.cells (List.replicate n .unk) bM]) else none)=_;rw [Nat.ble_eq_true_of_le hn];rfl⟩
theorem Sa{l:Go.Am.Lex}(hl:l.ok 0):cT Tryz.prog G0 jj [.agg l.row] [] fun r H'=>r = .ret (.bool true)∧H'=[]:=by
 obtain ⟨M⟩:=KZ bT EN;have hX:=VM M;exact M.sound Ue (HW M R8 VG R9 VH VI hX VJ VK (WdE.of M Ue (fun _ _ _=>rfl)) rfl hl (fun _=>rfl) [])
theorem Mc:iu Tryz.prog:=by constructor<;>kernel_rfl
theorem own:ownKnob Tryz.prog.godebug=none:=by kernel_rfl
theorem TG:laidOutB Tryz.prog=true:=by kernel_rfl
theorem params:Tryz.f4.params = #[ah]:=by kernel_rfl
theorem Sb:∀ t∈Tryz.f4.params.toList,Tryz.prog.readableRec t=true∧t<Tryz.prog.types.size:=fun t ht=>by
 have h:(Tryz.f4.params.toList.all fun t=>Tryz.prog.readableRec t&&decide (t<Tryz.prog.types.size))=true:=by kernel_rfl
 simpa using List.all_eq_true.1 h t ht
theorem VN:Tryz.prog.underlying dh=some .bool:=by kernel_rfl
end Go.Proofs.YtnknpmlcimogcaaGreatDoor
end
