import Derived.Test.YtaomolffnolpdaaGreatDoorA6
import Derived.WalkKit
import Derived.ProofKit
import Derived.Handy
import Derived.Lay
import Derived.SevenTiedAt
import Derived.OpenShut
import Derived.ChangeMaps5
import Derived.Deep.DeepHandedRow
/-
  Part 7 of the tool: an abstract machine over the model, proved sound, and what it says of the functions that the law reaches. Condition: none but those that each theorem names.
-/
set_option linter.unusedVariables false
set_option linter.unusedSimpArgs false
section
set_option linter.unusedVariables false
set_option linter.unusedSimpArgs false
namespace Go.Proofs.YtaomolffnolpdaaGreatDoor
open Go.ChangeShapes Go.WideShapes Go.ChangeAt Go.RowKit Go.Am

theorem en_bas : BasE EN := by constructor <;> rfl
theorem en_brk : BrkE EN := by constructor <;> rfl
theorem en_unt : UntE EN := by constructor <;> rfl
theorem en_cut : CutE EN := by constructor <;> rfl
theorem extd_ok (M : Mach cdec EN) : ExtD M := ⟨fun s H => by
    rw [run_orc M rfl]
    rfl⟩
theorem law_true {l : Sl Piece} (hl : l.ok 0 (Piece.ok 0)) {pos : Sl Int} (hpos : pos.ok 0 I64 ∧ (pos.tag = .nil ∧ pos.l = [] ∨ pos.tag = .some)) {ps : Sl (Sl Piece)} (hps : ps.ok 0 fun p => p.ok 0 (Piece.ok 0)) : ACalls Tryz.prog G0 f_truchmanlaw01_DocsCuts [.slice l.tag 3 (l.l.map Piece.row), .slice pos.tag 1 (pos.l.map intRow), .slice ps.tag 1 (ps.l.map plRow)] [] fun r H' => r = .ret (.bool true) ∧ H' = [] := by
  obtain ⟨M⟩ := mach_exists cdec EN
  have hD := extd_ok M
  exact M.sound EN_ok (run_DocsCuts M en_bas hD en_brk en_unt en_cut hl hpos hps (H := []) (fun _ => rfl))
theorem types_ok : TypesOk Tryz.prog := by constructor <;> kernel_rfl

theorem own : ownKnob Tryz.prog.godebug = none := by kernel_rfl
theorem laidOut : laidOutB Tryz.prog = true := by kernel_rfl
theorem params : Tryz.f5.params = #[t_sl_api_Piece, t_sl_int, t_sl_sl_api_Piece] := by kernel_rfl
theorem readable : ∀ t ∈ Tryz.f5.params.toList, Tryz.prog.readableRec t = true ∧ t < Tryz.prog.types.size := fun t ht => by
  have h : (Tryz.f5.params.toList.all fun t => Tryz.prog.readableRec t && decide (t < Tryz.prog.types.size)) = true := by kernel_rfl
  simpa using List.all_eq_true.1 h t ht
theorem u_bool : Tryz.prog.underlying t_bool = some .bool := by kernel_rfl

end Go.Proofs.YtaomolffnolpdaaGreatDoor
end

