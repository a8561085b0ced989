import Derived.Test.YthkkaomegnnieaaGreatDoorA6
import Derived.Test.YthkkaomegnnieaaGreatDoorCards
import Derived.Test.YthkkaomegnnieaaGreatDoorTie
import Derived.WalkKit
import Derived.ProofKit
import Derived.Handy
import Derived.Lay
import Derived.SevenTiedAt
import Derived.OpenShut
import Derived.ChangeMaps5
import Derived.Deep.DeepHandedRow
/-
  The law returns true for every input, and its input reads as it did: the tied card. No condition.
-/
set_option linter.unusedVariables false
set_option linter.unusedSimpArgs false
section
set_option linter.unusedVariables false
set_option linter.unusedSimpArgs false
namespace Go.Proofs.YthkkaomegnnieaaGreatDoor
open Go.ChangeShapes Go.WideShapes Go.ChangeAt Go.RowKit Go.Am

theorem en_chk : ChkE EN := by constructor <;> rfl
theorem en_uni : UniE EN := by constructor <;> rfl
theorem law_true {a : Sl Feat} (ha : a.ok 0 (Feat.ok 0)) {b : Sl Feat} (hb : b.ok 0 (Feat.ok 0)) {c : Sl Feat} (hc : c.ok 0 (Feat.ok 0)) : ACalls Tryz.prog G0 f_truchmanlaw02_MorphOrder [.slice a.tag 2 (a.l.map Feat.row), .slice b.tag 2 (b.l.map Feat.row), .slice c.tag 2 (c.l.map Feat.row)] [] fun r H' => r = .ret (.bool true) ∧ H' = [] := by
  obtain ⟨M⟩ := mach_exists cdec EN
  exact M.sound EN_ok (run_MorphOrder M en_chk en_uni (sort_ok M) srt_ok rfl ha hb hc (fun _ => rfl))
theorem types_ok : TypesOk Tryz.prog := by constructor <;> kernel_rfl

theorem own : ownKnob Tryz.prog.godebug = none := by kernel_rfl
theorem laidOut : laidOutB Tryz.prog = true := by kernel_rfl
theorem params : Tryz.f5.params = #[t_sl_api_Feat, t_sl_api_Feat, t_sl_api_Feat] := by kernel_rfl
theorem readable : ∀ t ∈ Tryz.f5.params.toList, Tryz.prog.readableRec t = true ∧ t < Tryz.prog.types.size := fun t ht => by
  have h : (Tryz.f5.params.toList.all fun t => Tryz.prog.readableRec t && decide (t < Tryz.prog.types.size)) = true := by kernel_rfl
  simpa using List.all_eq_true.1 h t ht
theorem u_bool : Tryz.prog.underlying t_bool = some .bool := by kernel_rfl

set_option maxRecDepth 100000 in
theorem contract (H : Type) (enc : TypeId × Value → H) (W : World) (base : Nat) (args : Array Value) (ds gs : List (DataW H)) (before : List MemPlace)
    (hval : ∀ (j : Nat) t v, Tryz.f5.params[j]? = some t → args[j]? = some v → Value.okWide Tryz.prog W .any base t v)
    (hW : DataW.Whole enc Tryz.prog Tryz.f5.params.toList Rows.morphOrderSpec.vars false W args.toList ds gs before) :
    Calls Tryz.prog 5 args W fun e W' => ∃ v, e = .returned v ∧ Rows.morphOrderSpec.post enc Tryz.prog Tryz.f5 false true false false W args v W' := by
  have hW' := hW
  obtain ⟨p, q, hA0, hV, rfl, _, _⟩ := hW
  have hA : DataW.TrodAll enc Tryz.prog W 0 (fun _ => true) true Tryz.f5.params.toList args.toList ds p := hA0
  have hlt : ∀ x ∈ p, x.block < W.heap.size := fun x hx => by simpa using hW'.lt x (by simp [hx])
  have hstay : ∀ W' : World, Below W.heap.size W W' → DataW.TrodAll enc Tryz.prog W' 0 (fun b => decide (b < W.heap.size)) true Tryz.f5.params.toList args.toList ds p := fun W' hb => trodAll_below laidOut hb _ _ _ _ readable hA hlt
  rw [params] at hA hval
  obtain ⟨v0, vs0, d0, ds0, p0, q0, e0, rfl, rfl, h0, hA0⟩ := trodAll_cons hA
  obtain ⟨v1, vs1, d1, ds1, p1, q1, e1, rfl, rfl, h1, hA1⟩ := trodAll_cons hA0
  obtain ⟨v2, vs2, d2, ds2, p2, q2, e2, rfl, rfl, h2, hA2⟩ := trodAll_cons hA1
  obtain ⟨e9, rfl, rfl⟩ := trodAll_nil hA2
  obtain rfl : args = #[v0, v1, v2] := by
    cases args; simp_all
  obtain ⟨rfl, rfl⟩ := trodVars_none hV
  obtain ⟨a0, l0, c0, rfl⟩ := okw_slice types_ok.u_sl_Feat (hval 0 t_sl_api_Feat v0 rfl rfl)
  obtain ⟨a1, l1, c1, rfl⟩ := okw_slice types_ok.u_sl_Feat (hval 1 t_sl_api_Feat v1 rfl rfl)
  obtain ⟨a2, l2, c2, rfl⟩ := okw_slice types_ok.u_sl_Feat (hval 2 t_sl_api_Feat v2 rfl rfl)
  obtain ⟨a, ha, g0⟩ := open_arg (G := G0) (open_sl_Feat types_ok) h0
  obtain ⟨b, hb, g1⟩ := open_arg (G := G0) (open_sl_Feat types_ok) h1
  obtain ⟨c, hc, g2⟩ := open_arg (G := G0) (open_sl_Feat types_ok) h2
  have hargs : Vs (Know.start W G0) [.slice a.tag 2 (a.l.map Feat.row), .slice b.tag 2 (b.l.map Feat.row), .slice c.tag 2 (c.l.map Feat.row)] #[.slice a0 l0 c0, .slice a1 l1 c1, .slice a2 l2 c2] := VL.vs (g0.append (g1.append g2))
  refine (law_calls (law_true ha hb hc) (fun _ _ h => by cases h) (callFunc_enter Tryz.func5 (by kernel_rfl) (by kernel_rfl) _ _) hargs).mono fun e W' ⟨he, hb⟩ => ?_
  subst he
  exact ⟨_, rfl, _, _, _, [], _, [], hW', trodAll_mk1 (shut_bool u_bool _), hstay W' hb, rfl, hb.frame _, fun h => by cases h⟩

def zeroArgs : Array Value := #[.slice none 0 0, .slice none 0 0, .slice none 0 0]
set_option maxRecDepth 100000 in
theorem reads (os : Os) {H : Type} (enc : TypeId × Value → H) : ∃ places, DataW.whole enc Tryz.prog ((World.laidAll Tryz.prog os Rows.morphOrderRow.laid).forCall (fun _ _ => 0) ⟨#[], zeroArgs, []⟩).memory Tryz.f5.params.toList Rows.morphOrderSpec.vars false zeroArgs.toList 8 = some ([.nil, .nil, .nil], [], places) :=
  ⟨[], by kernel_rfl⟩

set_option maxRecDepth 100000 in
theorem laid_met (os : Os) : laidMetH Tryz.prog Rows.morphOrderRow.laid ((World.laidAll Tryz.prog os Rows.morphOrderRow.laid).forCall (fun _ _ => 0) ⟨#[], zeroArgs, []⟩).memory := by
  rw [MakeChecks.laidMetH_plain _ _ _ (by kernel_rfl)]
  exact laidMet_laidAll _ (by kernel_rfl) (by kernel_rfl)

set_option maxRecDepth 100000 in
theorem lifted (os : Os) (started : os.Started) (H : Type) (enc : TypeId × Value → H) (F : Stop.Interp) :
    ReturnsInHanded {} Tryz.checked os 5 .any ((OpenSpec.ofChange Rows.morphOrderSpec).preRow enc Tryz.prog Tryz.f5 Rows.morphOrderRow.domain false Rows.morphOrderRow.laid) (((OpenSpec.ofChange Rows.morphOrderSpec).at F).post enc Tryz.prog Tryz.f5 false true false false) := by
  obtain ⟨places, hx⟩ := reads os enc
  have hok : Input.okWideB Tryz.prog ((World.laidAll Tryz.prog os Rows.morphOrderRow.laid).forCall (fun _ _ => 0) ⟨#[], zeroArgs, []⟩) 5 ⟨#[], zeroArgs, []⟩ = true := by kernel_rfl
  refine returnsInHanded_of_row (C := Tryz.checked) (s := OpenSpec.ofChange Rows.morphOrderSpec) own started (by kernel_rfl) Tryz.func5
    ⟨World.laidAll Tryz.prog os Rows.morphOrderRow.laid, fun _ _ => 0, ⟨#[], zeroArgs, []⟩, World.laidAll_os _ _ _, World.shaped_of_ZipB (by kernel_rfl) (by kernel_rfl),
      (Input.okWide_of_okWideB (base := 0) hok).1, (Input.okWide_of_okWideB hok).2, OpenSpec.preRow_of_cond 8 hx (by kernel_rfl) (fun k hk => by cases hk) (by kernel_rfl) (laid_met os), by
        simp only [Assume.holds]
        exact ⟨by simp, by simp, fun _ => Modest.zero, by simp, by simp⟩⟩ ?_
  intro W base args ds gs before hval hW _ _ _ _ _ _
  exact contract H enc W base args ds gs before hval hW

theorem said : Rows.MorphOrderSaid :=
  OpenClaim.holds_of_cond 5 Tryz.f5 rfl rfl rfl rfl rfl rfl rfl ⟨rfl, rfl, rfl, rfl, rfl⟩ rfl rfl rfl rfl rfl (by kernel_rfl) Tryz.func5 (by kernel_rfl)
    (of_decide_eq_true (by kernel_rfl)) (by unfold Func.isWrapper; first | (rw [if_pos (by decide +kernel)]; kernel_rfl) | (rw [if_neg (by decide +kernel)]; exact ⟨rfl, rfl⟩))
    (fun os started H enc _ F => by rw [OpenClaim.pre_eq_preRow]; exact lifted os started H enc F)

theorem plain (f : FuncId) (fn : Func) (hf : Tryz.pinned.checked.prog.funcNamed Rows.morphOrderRow.func = some f) (hfn : Tryz.pinned.checked.prog.funcs[f]? = some fn) :
    true = Tryz.pinned.checked.prog.looks [] ∧ ∀ (j : Nat) t, fn.params[j]? = some t → Tryz.pinned.checked.prog.wantsStandIn t = false := by
  obtain rfl : f = 5 := Option.some.inj ((show Tryz.prog.funcNamed Rows.morphOrderRow.func = some 5 by kernel_rfl).symm.trans hf) |>.symm
  obtain rfl : fn = Tryz.f5 := (Option.some.inj (Tryz.func5.symm.trans hfn)).symm
  refine ⟨by kernel_rfl, fun j t ht => ?_⟩
  have h : (Tryz.f5.params.toList.all fun t => !Tryz.prog.wantsStandIn t) = true := by kernel_rfl
  have := List.all_eq_true.1 h t (by simpa using Array.mem_of_getElem? ht)
  exact (show Tryz.prog.wantsStandIn t = false by simpa using this)

/-- The tied card. -/
theorem card : Rows.MorphOrderCardSaid :=
  Claim7.holds_tied_plain_at .later [] _ _ _ _ said (fun _ h => by cases h) (by kernel_rfl) (fun _ h => by cases h) morphOrder_row_tie rfl ⟨rfl, rfl⟩ (by kernel_rfl) rfl plain (by kernel_rfl)
#print axioms card
end Go.Proofs.YthkkaomegnnieaaGreatDoor
end

