import Derived.Test.YtjklecpnlbpinaaGreatDoorA5
import Derived.WalkKit
import Derived.ProofKit
import Derived.Handy
import Derived.Lay
import Derived.SevenTiedAt
import Derived.OpenShut
import Derived.ChangeMaps5
import Derived.Deep.DeepHandedRow
/-
  Part 6 of the tool: an abstract machine over the model, proved sound, and what it says of the functions that the law reaches. Condition: none but those that each theorem names.
-/
set_option linter.unusedVariables false
set_option linter.unusedSimpArgs false
section
set_option linter.unusedVariables false
set_option linter.unusedSimpArgs false
namespace Go.Proofs.YtjklecpnlbpinaaGreatDoor
open Go.ChangeShapes Go.WideShapes Go.ChangeAt Go.RowKit Go.Am

theorem en_bas : BasE EN := by constructor <;> rfl
theorem en_strs : StrE EN := by constructor <;> rfl
theorem en_bld : BldE EN := by constructor <;> rfl
theorem en_reads : ReadsE EN := by constructor <;> rfl
theorem ext_ok (M : Mach cdec EN) : ExtE M := ⟨fun s c H => by
    rw [run_orc M rfl]
    show some (ARes.ret (.int .i64 (Lib.indexByte s ((c.toNat : Int).toNat.toUInt8))), H) = _
    simp, fun i o H => by
    rw [run_orc M rfl]
    rfl⟩
theorem extd_ok (M : Mach cdec EN) : ExtD M := ⟨fun s H => by
    rw [run_orc M rfl]
    rfl⟩
theorem law_true {s : Str} (hs : s.length ≤ maxL) : ACalls Tryz.prog G0 f_truchmanlaw01_DocsReads [.str s] [] fun r H' => r = .ret (.bool true) ∧ H' = [] := by
  obtain ⟨M⟩ := mach_exists cdec EN
  have hX := ext_ok M
  have hD := extd_ok M
  exact M.sound EN_ok (run_DocsReads M en_bas en_strs en_bld hX hD rfl en_reads hs (H := []) (fun _ => rfl))
theorem types_ok : TypesOk Tryz.prog := by constructor <;> kernel_rfl

theorem own : ownKnob Tryz.prog.godebug = none := by kernel_rfl
theorem laidOut : laidOutB Tryz.prog = true := by kernel_rfl
theorem params : Tryz.f3.params = #[t_string] := by kernel_rfl
theorem readable : ∀ t ∈ Tryz.f3.params.toList, Tryz.prog.readableRec t = true ∧ t < Tryz.prog.types.size := fun t ht => by
  have h : (Tryz.f3.params.toList.all fun t => Tryz.prog.readableRec t && decide (t < Tryz.prog.types.size)) = true := by kernel_rfl
  simpa using List.all_eq_true.1 h t ht
theorem u_bool : Tryz.prog.underlying t_bool = some .bool := by kernel_rfl

end Go.Proofs.YtjklecpnlbpinaaGreatDoor
end

