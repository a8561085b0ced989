import Derived.Test.YtaomolffnolpdaaGreatDoorA5
import Derived.Test.YtaomolffnolpdaaGreatDoorChecked
import Derived.Shelf.Unicode.DecodeAny
import Derived.Lib.LaidU8T
import Derived.KernelRfl
/-
  Part 6 of the tool: an abstract machine over the model, proved sound, and what it says of the functions that the law reaches. Condition: none but those that each theorem names.
-/
set_option linter.unusedVariables false
set_option linter.unusedSimpArgs false
section
set_option linter.unusedSimpArgs false
set_option linter.unusedVariables false
set_option maxRecDepth 100000
set_option maxHeartbeats 4000000
namespace Go.Am
open Go.RowKit
attribute [local congr] dsel_congr sel_c1 slc_cong gsel_congr go_congr aft_congr aftD_congr condR_congr backR_congr inR_congr at2_congr
variable {E : REnv} (M : Mach cdec E)

/-! The specification's Cut: the whole -/
theorem rc3o (hC : CutE E) {t : Nat} {R : Nat → Prop} {pos : List Int} {ta : Tag} (hpl : pos.length ≤ 1000) {s : List Piece} (hs : s.length ≤ 1000000) {H0 : List AObj} {i m : Nat} {x : Piece} (hi : i < s.length) (hx : s[i]? = some x) (hxt : x.text.length ≤ 1000000)
    {H : List AObj} {S : CSt} {q : Nat} {vs : List AV} {v ov : AV} (h : RefW t R H S q vs v ov) (hb : CBm m S) (hm : m ≤ 50000) (hop : (x.kind == 3) = true → S.opn ≠ []) :
    ∃ H1 q1 vs1 v1 ov1, (∀ (k : List Fra) (He : List AObj), M.go a_truchmanref01_Cut H0 (.c l_truchmanref01_Cut_3 :: .lp ⟨(some [1, 9, 10, 11, 12, 13, 14]), [(10, 1, t_sl_api_Piece)], false⟩ l_truchmanref01_Cut_3 He :: .blk 2 :: .c (.lv [10, 11]) :: k) (kv [(1, .slice ta 1 (pos.map intRow)), (9, .slice .any 3 (s.map Piece.row)), (10, .slice (.own t) 1 (vs.map fnRow)), (11, v), (12, ov), (13, .int .i64 S.place), (14, .int .i64 i)]) H =
      M.go a_truchmanref01_Cut H0 (.c l_truchmanref01_Cut_3 :: .lp ⟨(some [1, 9, 10, 11, 12, 13, 14]), [(10, 1, t_sl_api_Piece)], false⟩ l_truchmanref01_Cut_3 H1 :: .blk 2 :: .c (.lv [10, 11]) :: k) (kv [(1, .slice ta 1 (pos.map intRow)), (9, .slice .any 3 (s.map Piece.row)), (10, .slice (.own t) 1 (vs1.map fnRow)), (11, v1), (12, ov1), (13, .int .i64 (refS pos S x).place), (14, .int .i64 ((i + 1 : Nat) : Int))]) H1) ∧ RefW t R H1 (refS pos S x) q1 vs1 v1 ov1 ∧ LowR R H H1 := by
  have hir := ias_row (row := Piece.row) (tag := .any) (sz := 3) (k := .i64) hi
  have hwi := wrap_s (n := s.length) hi (by simp only [maxL]; omega)
  have hvl := h.len
  -- the second half
  have bnd : ∀ S1 : CSt, CBm (m + 1) S1 → S1.cur.length ≤ 1000000 ∧ (∀ y ∈ S1.cur, y.text.length ≤ 1000000) ∧ S1.opn.length ≤ 100000 ∧ S1.place ≤ 100000 := fun S1 b => ⟨by have := b.cur; omega, fun y hy => by have := b.txt y hy; omega, by have := b.opn; omega, by have := b.place; omega⟩
  have s2 : (x.kind == 2) = true → ∀ {H1 : List AObj} {S1 : CSt} {q1 : Nat} {vs1 : List AV} {v1 ov1 : AV}, RefW t R H1 S1 q1 vs1 v1 ov1 → CBm (m + 1) S1 → ∃ ov2 G2 w G3, rap true H1 t_string 1 16 false ov1 (.slice .full 1 [[.str x.text]]) = some (ov2, G2) ∧ M.run f_truchmanref01_add [v1, .agg x.row] G2 = some (.ret w, G3) ∧ RefW t R G3 (refN S1 x) q1 vs1 w ov2 ∧ LowR R H1 G3 := fun k2 {H1 S1 q1 vs1 v1 ov1} w1 b => by
    obtain ⟨b1, b2, b3, _⟩ := bnd S1 b
    obtain ⟨ov2, G2, a1, a2, a3⟩ := w1.open b3 x.text
    obtain ⟨w, G3, c1, c2, c3⟩ := a2.add M hC b1 b2 hxt
    refine ⟨ov2, G2, w, G3, a1, c1, ?_, a3.trans c3⟩
    have e1 : (x.kind == 1) = false := by rw [eq_of_beq k2]; rfl
    have e5 : (x.kind == 5) = false := by rw [eq_of_beq k2]; rfl
    have hN : refN S1 x = { S1 with opn := S1.opn ++ [x.text], cur := putF S1.cur x } := by simp [refN, opnF, k2, e1, e5, sel_true, sel_false]
    rw [hN]; exact c2
  have s3 : (x.kind == 3) = true → ∀ {H1 : List AObj} {S1 : CSt} {q1 : Nat} {vs1 : List AV} {v1 ov1 : AV}, RefW t R H1 S1 q1 vs1 v1 ov1 → CBm (m + 1) S1 → S1.opn ≠ [] → ∃ ov2 w G3, (∀ G, rlen G .sl ov1 = some (.int .i64 (S1.opn.length : Int))) ∧ rsll 1 ov1 none (some (.int .i64 ((S1.opn.length - 1 : Nat) : Int))) none = some ov2 ∧ IntKind.i64.wrap ((S1.opn.length : Int) - 1) = ((S1.opn.length - 1 : Nat) : Int) ∧ M.run f_truchmanref01_add [v1, .agg x.row] H1 = some (.ret w, G3) ∧ RefW t R G3 (refN S1 x) q1 vs1 w ov2 ∧ LowR R H1 G3 := fun k3 {H1 S1 q1 vs1 v1 ov1} w1 b hne => by
    obtain ⟨b1, b2, b3, _⟩ := bnd S1 b
    obtain ⟨l, s, hls⟩ : ∃ l s, S1.opn = l ++ [s] := by
      rcases List.eq_nil_or_concat S1.opn with h | ⟨l, s, h⟩
      · exact absurd h hne
      · exact ⟨l, s, by simpa using h⟩
    have hlen : S1.opn.length = l.length + 1 := by rw [hls]; simp
    obtain ⟨ov2, a1, a2⟩ := w1.shut hls
    obtain ⟨w, G3, c1, c2, c3⟩ := a2.add M hC b1 b2 hxt
    refine ⟨ov2, w, G3, fun G => len_op (G := G) w1.op, by rw [hlen, Nat.add_sub_cancel]; exact a1, by rw [wrap_i64 (by omega) (by omega)]; omega, c1, ?_, c3⟩
    have e1 : (x.kind == 1) = false := by rw [eq_of_beq k3]; rfl
    have e2 : (x.kind == 2) = false := by rw [eq_of_beq k3]; rfl
    have e5 : (x.kind == 5) = false := by rw [eq_of_beq k3]; rfl
    have hN : refN S1 x = { S1 with opn := l, cur := putF S1.cur x } := by simp [refN, opnF, k3, e1, e2, e5, hls, sel_true, sel_false]
    rw [hN]; exact c2
  have s0 : (x.kind == 2) = false → (x.kind == 3) = false → ∀ {H1 : List AObj} {S1 : CSt} {q1 : Nat} {vs1 : List AV} {v1 ov1 : AV}, RefW t R H1 S1 q1 vs1 v1 ov1 → CBm (m + 1) S1 → ∃ w G3, M.run f_truchmanref01_add [v1, .agg x.row] H1 = some (.ret w, G3) ∧ RefW t R G3 (refN S1 x) q1 vs1 w ov1 ∧ LowR R H1 G3 := fun k2 k3 {H1 S1 q1 vs1 v1 ov1} w1 b => by
    obtain ⟨b1, b2, b3, _⟩ := bnd S1 b
    obtain ⟨w, G3, c1, c2, c3⟩ := w1.add M hC b1 b2 hxt
    refine ⟨w, G3, c1, ?_, c3⟩
    have w2 : RefW t R G3 (refN S1 x) q1 vs1 w ov1 := ⟨c2.rl, c2.tr, c2.tok, c2.len, c2.dn, c2.cr, c2.ab, c2.pr, c2.ql, by
      have ho : (refN S1 x).opn = S1.opn := by simp [refN, opnF, k2, k3, sel_false]
      rw [ho]; exact c2.op, c2.oa⟩
    exact w2
  have plc : ∀ S1 : CSt, S1.place = S.place → IntKind.i64.wrap ((S1.place : Int) + 1) = ((S1.place + 1 : Nat) : Int) := fun S1 e => by
    have := hb.place
    rw [wrap_i64 (by omega) (by omega)]; omega
  unfold refS
  cases hcut : refC pos S x with
  | true =>
    unfold refC at hcut
    rw [Bool.and_eq_true, Bool.and_eq_true] at hcut
    obtain ⟨hc1, hc2, hc3⟩ := hcut
    have hlt : vs.length < pos.length := by rw [hvl]; exact of_decide_eq_true hc1
    have k3 : (x.kind == 3) = false := by simpa using hc3
    have hp0 : pos[vs.length]? = some pos[vs.length] := List.getElem?_eq_getElem hlt
    have heq : ((S.place : Int) == pos[vs.length]) = true := by
      rw [← hvl] at hc2
      rw [List.getD_eq_getElem?_getD, hp0] at hc2; exact hc2
    have hip := ias_row (row := intRow) (tag := ta) (sz := 1) (k := .i64) hlt
    rw [sel_true]
    have hob := hb.opn
    have hcb := hb.cur
    have hdb := hb.done
    obtain ⟨H1, v1, e1, w1, f1⟩ := rc1 M (v1 := .slice ta 1 (pos.map intRow)) (v9 := .slice .any 3 (s.map Piece.row)) (v10 := .slice (.own t) 1 (vs.map fnRow)) (v13 := .int .i64 S.place) (v14 := .int .i64 i) (H0 := H0) S.opn.length H v S h (Nat.le_refl _) (by omega) (by omega)
    rw [List.take_length] at w1
    obtain ⟨p1, p2, p3⟩ := w1.push (by dsimp only; omega)
    obtain ⟨H3, v3, e3, w3, f3⟩ := rc2 M (v1 := .slice ta 1 (pos.map intRow)) (v9 := .slice .any 3 (s.map Piece.row)) (v10 := .slice (.own t) 1 ((vs ++ [v1]).map fnRow)) (v13 := .int .i64 S.place) (v14 := .int .i64 i) (H0 := H0) S.opn.length 0 _ (.slice .nil 3 []) _ p2 (by dsimp only; omega) (by dsimp only; omega) (by simp; omega)
    have w4 : RefW t R H3 (refT S) H1.length (vs ++ [v1]) v3 ov := by
      have := w3
      simp only [List.drop_zero, List.nil_append] at this
      exact ⟨this.rl, this.tr, this.tok, this.len, this.dn, this.cr, this.ab, this.pr, this.ql, this.op, this.oa⟩
    have b4 := refT_bm hb
    have f4 : LowR R H H3 := (f1.trans p3).trans f3
    have hlo := fun G => len_op (G := G) h.op
    have hwo : IntKind.i64.wrap ((S.opn.length : Int) - 1) = (S.opn.length : Int) - 1 := wrap_i64 (by omega) (by omega)
    have hpc := plc S rfl
    have ac1 := (cell_PcV w1.cr).2
    have sp1 := strip_PcV w1.cr
    have sr1 : ∀ a b : AV, setRow [a] 0 [b] = [b] := fun _ _ => rfl
    simp only [kv_cons, kv_nil, Int.ofNat_zero] at e1 e3
    generalize hG : H1.set t _ = G at p1 e3
    generalize hR1 : (vs ++ [v1]).map fnRow = R1 at p1 e3
    cases k2 : x.kind == 2 with
    | true =>
      obtain ⟨ov2, G2, w, G3, a1, a2, a3, a4⟩ := s2 k2 w4 b4
      refine ⟨G3, _, _, w, ov2, fun k He => ?_, a3, f4.trans a4⟩
      have e1k : (x.kind == 1) = false := by rw [eq_of_beq k2]; rfl
      have e5k : (x.kind == 5) = false := by rw [eq_of_beq k2]; rfl
      have hpN : (refN (refT S) x).place = S.place := by simp [refN, e1k, e5k, sel_false, refT]
      rw [hpN, hR1]
      rw [go_head M l_truchmanref01_Cut_3.eq_1]
      simp (maxSteps := 3000000) (maxDischargeDepth := 6) +contextual -implicitDefEqProofs only [amC M, ↓amD, Nat.reduceBEq, Nat.reduceAdd, env, fargs, q_truchmanref01_Cut, amG, AV.cell, Nat.reduceMul, Nat.reduceLeDiff, hi, hx, hir, hwi, List.length_map, hlt, hip, hp0, qIntR, heq, qPiece, k2, k3, hlo, hwo, e1, ac1, sp1, sr1, p1, e3, a1, a2]
    | false =>
      obtain ⟨w, G3, a2, a3, a4⟩ := s0 k2 k3 w4 b4
      refine ⟨G3, _, _, w, ov, fun k He => ?_, a3, f4.trans a4⟩
      cases k1 : x.kind == 1 with
      | true =>
        have hpN : (refN (refT S) x).place = S.place + 1 := by simp [refN, k1, sel_true, refT]
        rw [hpN, hR1]
        rw [go_head M l_truchmanref01_Cut_3.eq_1]
        simp (maxSteps := 3000000) (maxDischargeDepth := 6) +contextual -implicitDefEqProofs only [amC M, ↓amD, Nat.reduceBEq, Nat.reduceAdd, env, fargs, q_truchmanref01_Cut, amG, AV.cell, Nat.reduceMul, Nat.reduceLeDiff, hi, hx, hir, hwi, List.length_map, hlt, hip, hp0, qIntR, heq, qPiece, k1, k2, k3, hlo, hwo, e1, ac1, sp1, sr1, p1, e3, a2, hpc]
      | false =>
        cases k5 : x.kind == 5 with
        | true =>
          have hpN : (refN (refT S) x).place = S.place + 1 := by simp [refN, k1, k5, sel_true, refT]
          rw [hpN, hR1]
          rw [go_head M l_truchmanref01_Cut_3.eq_1]
          simp (maxSteps := 3000000) (maxDischargeDepth := 6) +contextual -implicitDefEqProofs only [amC M, ↓amD, Nat.reduceBEq, Nat.reduceAdd, env, fargs, q_truchmanref01_Cut, amG, AV.cell, Nat.reduceMul, Nat.reduceLeDiff, hi, hx, hir, hwi, List.length_map, hlt, hip, hp0, qIntR, heq, qPiece, k1, k5, k2, k3, hlo, hwo, e1, ac1, sp1, sr1, p1, e3, a2, hpc]
        | false =>
          have hpN : (refN (refT S) x).place = S.place := by simp [refN, k1, k5, sel_false, refT]
          rw [hpN, hR1]
          rw [go_head M l_truchmanref01_Cut_3.eq_1]
          simp (maxSteps := 3000000) (maxDischargeDepth := 6) +contextual -implicitDefEqProofs only [amC M, ↓amD, Nat.reduceBEq, Nat.reduceAdd, env, fargs, q_truchmanref01_Cut, amG, AV.cell, Nat.reduceMul, Nat.reduceLeDiff, hi, hx, hir, hwi, List.length_map, hlt, hip, hp0, qIntR, heq, qPiece, k1, k5, k2, k3, hlo, hwo, e1, ac1, sp1, sr1, p1, e3, a2]
  | false =>
    rw [sel_false]
    have b4 : CBm (m + 1) S := hb.mono (by omega)
    have hpc := plc S rfl
    unfold refC at hcut
    rw [← hvl] at hcut
    -- why there is no cut
    have why : (¬ vs.length < pos.length) ∨ (∃ hlt : vs.length < pos.length, ((S.place : Int) == pos[vs.length]) = false) ∨ (∃ hlt : vs.length < pos.length, ((S.place : Int) == pos[vs.length]) = true ∧ (x.kind == 3) = true) := by
      by_cases hlt : vs.length < pos.length
      · right
        rw [decide_eq_true hlt, Bool.true_and, List.getD_eq_getElem?_getD, List.getElem?_eq_getElem hlt, Option.getD_some] at hcut
        cases he : (S.place : Int) == pos[vs.length] with
        | false => exact .inl ⟨hlt, he⟩
        | true =>
          rw [he, Bool.true_and] at hcut
          exact .inr ⟨hlt, he, by simpa using hcut⟩
      · exact .inl hlt
    rcases why with hlt | ⟨hlt, heq⟩ | ⟨hlt, heq, k3⟩
    · cases k2 : x.kind == 2 with
      | true =>
        have k3 : (x.kind == 3) = false := by rw [eq_of_beq k2]; rfl
        obtain ⟨ov2, G2, w, G3, a1, a2, a3, a4⟩ := s2 k2 h b4
        refine ⟨G3, _, _, w, ov2, fun k He => ?_, a3, a4⟩
        have e1k : (x.kind == 1) = false := by rw [eq_of_beq k2]; rfl
        have e5k : (x.kind == 5) = false := by rw [eq_of_beq k2]; rfl
        have hpN : (refN S x).place = S.place := by simp [refN, e1k, e5k, sel_false]
        rw [hpN]
        rw [go_head M l_truchmanref01_Cut_3.eq_1]
        simp (maxSteps := 3000000) (maxDischargeDepth := 6) +contextual -implicitDefEqProofs only [amC M, ↓amD, Nat.reduceBEq, Nat.reduceAdd, env, fargs, q_truchmanref01_Cut, amG, AV.cell, Nat.reduceMul, Nat.reduceLeDiff, hi, hx, hir, hwi, List.length_map, hlt, qPiece, k2, k3, a1, a2]
      | false =>
        cases k3 : x.kind == 3 with
        | true =>
          obtain ⟨ov2, w, G3, a0, a1, aw, a2, a3, a4⟩ := s3 k3 h b4 (hop k3)
          refine ⟨G3, _, _, w, ov2, fun k He => ?_, a3, a4⟩
          have e1k : (x.kind == 1) = false := by rw [eq_of_beq k3]; rfl
          have e5k : (x.kind == 5) = false := by rw [eq_of_beq k3]; rfl
          have hpN : (refN S x).place = S.place := by simp [refN, e1k, e5k, sel_false]
          rw [hpN]
          rw [go_head M l_truchmanref01_Cut_3.eq_1]
          simp (maxSteps := 3000000) (maxDischargeDepth := 6) +contextual -implicitDefEqProofs only [amC M, ↓amD, Nat.reduceBEq, Nat.reduceAdd, env, fargs, q_truchmanref01_Cut, amG, AV.cell, Nat.reduceMul, Nat.reduceLeDiff, hi, hx, hir, hwi, List.length_map, hlt, qPiece, k2, k3, a0, aw, a1, a2]
        | false =>
          obtain ⟨w, G3, a2, a3, a4⟩ := s0 k2 k3 h b4
          refine ⟨G3, _, _, w, ov, fun k He => ?_, a3, a4⟩
          cases k1 : x.kind == 1 with
          | true =>
            have hpN : (refN S x).place = S.place + 1 := by simp [refN, k1, sel_true]
            rw [hpN]
            rw [go_head M l_truchmanref01_Cut_3.eq_1]
            simp (maxSteps := 3000000) (maxDischargeDepth := 6) +contextual -implicitDefEqProofs only [amC M, ↓amD, Nat.reduceBEq, Nat.reduceAdd, env, fargs, q_truchmanref01_Cut, amG, AV.cell, Nat.reduceMul, Nat.reduceLeDiff, hi, hx, hir, hwi, List.length_map, hlt, qPiece, k1, k2, k3, a2, hpc]
          | false =>
            cases k5 : x.kind == 5 with
            | true =>
              have hpN : (refN S x).place = S.place + 1 := by simp [refN, k1, k5, sel_true]
              rw [hpN]
              rw [go_head M l_truchmanref01_Cut_3.eq_1]
              simp (maxSteps := 3000000) (maxDischargeDepth := 6) +contextual -implicitDefEqProofs only [amC M, ↓amD, Nat.reduceBEq, Nat.reduceAdd, env, fargs, q_truchmanref01_Cut, amG, AV.cell, Nat.reduceMul, Nat.reduceLeDiff, hi, hx, hir, hwi, List.length_map, hlt, qPiece, k1, k5, k2, k3, a2, hpc]
            | false =>
              have hpN : (refN S x).place = S.place := by simp [refN, k1, k5, sel_false]
              rw [hpN]
              rw [go_head M l_truchmanref01_Cut_3.eq_1]
              simp (maxSteps := 3000000) (maxDischargeDepth := 6) +contextual -implicitDefEqProofs only [amC M, ↓amD, Nat.reduceBEq, Nat.reduceAdd, env, fargs, q_truchmanref01_Cut, amG, AV.cell, Nat.reduceMul, Nat.reduceLeDiff, hi, hx, hir, hwi, List.length_map, hlt, qPiece, k1, k5, k2, k3, a2]
    · have hp0 : pos[vs.length]? = some pos[vs.length] := List.getElem?_eq_getElem hlt
      have hip := ias_row (row := intRow) (tag := ta) (sz := 1) (k := .i64) hlt
      cases k2 : x.kind == 2 with
      | true =>
        have k3 : (x.kind == 3) = false := by rw [eq_of_beq k2]; rfl
        obtain ⟨ov2, G2, w, G3, a1, a2, a3, a4⟩ := s2 k2 h b4
        refine ⟨G3, _, _, w, ov2, fun k He => ?_, a3, a4⟩
        have e1k : (x.kind == 1) = false := by rw [eq_of_beq k2]; rfl
        have e5k : (x.kind == 5) = false := by rw [eq_of_beq k2]; rfl
        have hpN : (refN S x).place = S.place := by simp [refN, e1k, e5k, sel_false]
        rw [hpN]
        rw [go_head M l_truchmanref01_Cut_3.eq_1]
        simp (maxSteps := 3000000) (maxDischargeDepth := 6) +contextual -implicitDefEqProofs only [amC M, ↓amD, Nat.reduceBEq, Nat.reduceAdd, env, fargs, q_truchmanref01_Cut, amG, AV.cell, Nat.reduceMul, Nat.reduceLeDiff, hi, hx, hir, hwi, List.length_map, hlt, hip, hp0, qIntR, heq, qPiece, k2, k3, a1, a2]
      | false =>
        cases k3 : x.kind == 3 with
        | true =>
          obtain ⟨ov2, w, G3, a0, a1, aw, a2, a3, a4⟩ := s3 k3 h b4 (hop k3)
          refine ⟨G3, _, _, w, ov2, fun k He => ?_, a3, a4⟩
          have e1k : (x.kind == 1) = false := by rw [eq_of_beq k3]; rfl
          have e5k : (x.kind == 5) = false := by rw [eq_of_beq k3]; rfl
          have hpN : (refN S x).place = S.place := by simp [refN, e1k, e5k, sel_false]
          rw [hpN]
          rw [go_head M l_truchmanref01_Cut_3.eq_1]
          simp (maxSteps := 3000000) (maxDischargeDepth := 6) +contextual -implicitDefEqProofs only [amC M, ↓amD, Nat.reduceBEq, Nat.reduceAdd, env, fargs, q_truchmanref01_Cut, amG, AV.cell, Nat.reduceMul, Nat.reduceLeDiff, hi, hx, hir, hwi, List.length_map, hlt, hip, hp0, qIntR, heq, qPiece, k2, k3, a0, aw, a1, a2]
        | false =>
          obtain ⟨w, G3, a2, a3, a4⟩ := s0 k2 k3 h b4
          refine ⟨G3, _, _, w, ov, fun k He => ?_, a3, a4⟩
          cases k1 : x.kind == 1 with
          | true =>
            have hpN : (refN S x).place = S.place + 1 := by simp [refN, k1, sel_true]
            rw [hpN]
            rw [go_head M l_truchmanref01_Cut_3.eq_1]
            simp (maxSteps := 3000000) (maxDischargeDepth := 6) +contextual -implicitDefEqProofs only [amC M, ↓amD, Nat.reduceBEq, Nat.reduceAdd, env, fargs, q_truchmanref01_Cut, amG, AV.cell, Nat.reduceMul, Nat.reduceLeDiff, hi, hx, hir, hwi, List.length_map, hlt, hip, hp0, qIntR, heq, qPiece, k1, k2, k3, a2, hpc]
          | false =>
            cases k5 : x.kind == 5 with
            | true =>
              have hpN : (refN S x).place = S.place + 1 := by simp [refN, k1, k5, sel_true]
              rw [hpN]
              rw [go_head M l_truchmanref01_Cut_3.eq_1]
              simp (maxSteps := 3000000) (maxDischargeDepth := 6) +contextual -implicitDefEqProofs only [amC M, ↓amD, Nat.reduceBEq, Nat.reduceAdd, env, fargs, q_truchmanref01_Cut, amG, AV.cell, Nat.reduceMul, Nat.reduceLeDiff, hi, hx, hir, hwi, List.length_map, hlt, hip, hp0, qIntR, heq, qPiece, k1, k5, k2, k3, a2, hpc]
            | false =>
              have hpN : (refN S x).place = S.place := by simp [refN, k1, k5, sel_false]
              rw [hpN]
              rw [go_head M l_truchmanref01_Cut_3.eq_1]
              simp (maxSteps := 3000000) (maxDischargeDepth := 6) +contextual -implicitDefEqProofs only [amC M, ↓amD, Nat.reduceBEq, Nat.reduceAdd, env, fargs, q_truchmanref01_Cut, amG, AV.cell, Nat.reduceMul, Nat.reduceLeDiff, hi, hx, hir, hwi, List.length_map, hlt, hip, hp0, qIntR, heq, qPiece, k1, k5, k2, k3, a2]
    · have hp0 : pos[vs.length]? = some pos[vs.length] := List.getElem?_eq_getElem hlt
      have hip := ias_row (row := intRow) (tag := ta) (sz := 1) (k := .i64) hlt
      have k2 : (x.kind == 2) = false := by rw [eq_of_beq k3]; rfl
      obtain ⟨ov2, w, G3, a0, a1, aw, a2, a3, a4⟩ := s3 k3 h b4 (hop k3)
      refine ⟨G3, _, _, w, ov2, fun k He => ?_, a3, a4⟩
      have e1k : (x.kind == 1) = false := by rw [eq_of_beq k3]; rfl
      have e5k : (x.kind == 5) = false := by rw [eq_of_beq k3]; rfl
      have hpN : (refN S x).place = S.place := by simp [refN, e1k, e5k, sel_false]
      rw [hpN]
      rw [go_head M l_truchmanref01_Cut_3.eq_1]
      simp (maxSteps := 3000000) (maxDischargeDepth := 6) +contextual -implicitDefEqProofs only [amC M, ↓amD, Nat.reduceBEq, Nat.reduceAdd, env, fargs, q_truchmanref01_Cut, amG, AV.cell, Nat.reduceMul, Nat.reduceLeDiff, hi, hx, hir, hwi, List.length_map, hlt, hip, hp0, qIntR, heq, qPiece, k2, k3, a0, aw, a1, a2]
def sumS (l : List Piece) : Nat := (l.map fun x => x.text.length + 2).sum
theorem sumS_cons (x : Piece) (l : List Piece) : sumS (x :: l) = x.text.length + 2 + sumS l := by simp [sumS]
theorem rc3 (hC : CutE E) {t : Nat} {R : Nat → Prop} {pos : List Int} {ta : Tag} (hpl : pos.length ≤ 1000) {s : List Piece} (hs : s.length ≤ 1000000) (hst : ∀ x ∈ s, x.text.length ≤ 1000000) {H0 : List AObj} : ∀ (n i m : Nat) (H : List AObj) (S : CSt) (q : Nat) (vs : List AV) (v ov : AV), i + n = s.length → RefW t R H S q vs v ov → CBm m S → opsOk (s.drop i) S.opn.length → m + sumS (s.drop i) ≤ 50000 →
    ∃ H' q' vs' v' ov', (∀ (k : List Fra) (He : List AObj), M.go a_truchmanref01_Cut H0 (.c l_truchmanref01_Cut_3 :: .lp ⟨(some [1, 9, 10, 11, 12, 13, 14]), [(10, 1, t_sl_api_Piece)], false⟩ l_truchmanref01_Cut_3 He :: .blk 2 :: .c (.lv [10, 11]) :: k) (kv [(1, .slice ta 1 (pos.map intRow)), (9, .slice .any 3 (s.map Piece.row)), (10, .slice (.own t) 1 (vs.map fnRow)), (11, v), (12, ov), (13, .int .i64 S.place), (14, .int .i64 i)]) H =
      M.go a_truchmanref01_Cut H0 k (kv [(10, .slice (.own t) 1 (vs'.map fnRow)), (11, v')]) H') ∧ RefW t R H' ((s.drop i).foldl (refS pos) S) q' vs' v' ov' ∧ LowR R H H' ∧ CBm (m + sumS (s.drop i)) ((s.drop i).foldl (refS pos) S)
  | 0, i, m, H, S, q, vs, v, ov, h, hR, hb, hop, hm => by
    have e : i = s.length := by omega
    subst e
    rw [List.drop_length]
    refine ⟨H, q, vs, v, ov, fun k He => ?_, hR, LowR.refl _ _, hb.mono (by omega)⟩
    rw [go_head M l_truchmanref01_Cut_3.eq_1]
    simp (maxSteps := 3000000) (maxDischargeDepth := 6) +contextual -implicitDefEqProofs only [amC M, ↓amD, Nat.reduceBEq, Nat.reduceAdd, env, fargs, q_truchmanref01_Cut, Nat.lt_irrefl]
  | n + 1, i, m, H, S, q, vs, v, ov, h, hR, hb, hop, hm => by
    have hi : i < s.length := by omega
    have hx : s[i]? = some s[i] := List.getElem?_eq_getElem hi
    have hd : (s.drop i) = s[i] :: s.drop (i + 1) := List.drop_eq_getElem_cons hi
    have hmem : s[i] ∈ s := List.getElem_mem hi
    rw [hd] at hop hm ⊢
    rw [sumS_cons] at hm
    obtain ⟨hop1, hop2⟩ := hop
    obtain ⟨H1, q1, vs1, v1, ov1, o1, o2, o3⟩ := rc3o M hC (ta := ta) hpl hs (H0 := H0) hi hx (hst _ hmem) hR hb (by omega) (fun hk e => by have := hop1 hk; rw [e] at this; simp at this)
    have hopn : (refS pos S s[i]).opn.length = (if s[i].kind == 2 then S.opn.length + 1 else if s[i].kind == 3 then S.opn.length - 1 else S.opn.length) := by
      have e : (sel (refC pos S s[i]) (refT S) S).opn = S.opn := by cases refC pos S s[i] <;> rfl
      show (opnF (sel (refC pos S s[i]) (refT S) S).opn s[i]).length = _
      rw [e, opnF]
      cases s[i].kind == 2 with
      | true => simp [sel_true]
      | false => cases s[i].kind == 3 <;> simp [sel_true, sel_false]
    rw [← hopn] at hop2
    obtain ⟨H2, q2, vs2, v2, ov2, i1, i2, i3, i4⟩ := rc3 hC (ta := ta) hpl hs hst (H0 := H0) n (i + 1) (m + s[i].text.length + 2) H1 _ q1 vs1 v1 ov1 (by omega) o2 (refS_bm hb pos (Nat.le_refl _)) hop2 (by omega)
    refine ⟨H2, q2, vs2, v2, ov2, fun k He => by rw [o1 k He, i1 k H1], i2, o3.trans i3, ?_⟩
    rw [sumS_cons, List.foldl_cons]
    exact i4.mono (by omega)
end Go.Am
end

section
set_option linter.unusedSimpArgs false
set_option linter.unusedVariables false
set_option maxRecDepth 100000
set_option maxHeartbeats 4000000
namespace Go.Am
open Go.RowKit
attribute [local congr] dsel_congr sel_c1 slc_cong gsel_congr go_congr aft_congr aftD_congr condR_congr backR_congr inR_congr at2_congr
variable {E : REnv} (M : Mach cdec E)

/-! The specification's Cut -/
theorem deepE {H0 H : List AObj} (hc : CutOk H0 H) (n : Nat) (e : Int) : handV cdec .deep H0 H (.tuple [.slice .nil n [], .int .u8 e]) = some (.tuple [.slice .nil n [], .int .u8 e], H.take H0.length) := by
  rw [handV_deep hc ⟨5, fz_tuple (mapO_cons (fz_rows (t := .nil) (mapO_nil _)) (mapO_cons (fz_int _ _ _ _ _) (mapO_nil _)))⟩]; rfl
theorem sin_ops : ∀ (rs : List Nat) (l : List Piece) (n : Nat), opsOk l n → opsOk (rs.map chrP ++ l) n
  | [], l, n, h => h
  | r :: rs, l, n, h => ⟨fun hk => (by cases hk), sin_ops rs l n h⟩
theorem sinL_ops : ∀ (l : List Piece) (n : Nat), opsOk l n → opsOk (sinL l) n
  | [], _, _ => trivial
  | x :: l, n, h => by
    obtain ⟨h1, h2⟩ := h
    have ih := sinL_ops l _ h2
    show opsOk (sinP x ++ sinL l) n
    unfold sinP
    cases k1 : x.kind == 1 with
    | true =>
      rw [sel_true]
      refine sin_ops _ _ _ ?_
      have e2 : (x.kind == 2) = false := by rw [eq_of_beq k1]; rfl
      have e3 : (x.kind == 3) = false := by rw [eq_of_beq k1]; rfl
      rwa [if_neg (by simp [e2]), if_neg (by simp [e3])] at ih
    | false => rw [sel_false]; exact ⟨h1, ih⟩
theorem sumS_app : ∀ (l m : List Piece), sumS (l ++ m) = sumS l + sumS m := fun l m => by simp [sumS]
theorem sumS_chr : ∀ rs : List Nat, sumS (rs.map chrP) ≤ 6 * rs.length
  | [] => Nat.le_refl _
  | r :: rs => by
    have := sumS_chr rs
    have h4 := chrP_len r
    rw [List.map_cons, sumS_cons, List.length_cons]; omega
theorem sumS_sin : ∀ l : List Piece, sumS (sinL l) ≤ sumP l
  | [] => Nat.le_refl _
  | x :: l => by
    have ih := sumS_sin l
    have hr := runesL_len x.text
    have hc := sumS_chr (runesL x.text)
    show sumS (sinP x ++ sinL l) ≤ _
    rw [sumS_app, sumP_cons, szP]
    unfold sinP
    cases x.kind == 1 with
    | true => rw [sel_true]; omega
    | false => rw [sel_false]; simp only [sumS, List.map_cons, List.map_nil, List.sum_cons, List.sum_nil] at *; omega
theorem sin_txt : ∀ (l : List Piece) (x : Piece), x ∈ sinL l → x.text.length ≤ txtN l + 4
  | [], x, h => by simp [sinL] at h
  | y :: l, x, h => by
    have h' : x ∈ sinP y ++ sinL l := h
    have hy : txtN (y :: l) = y.text.length + txtN l := by simp [txtN]
    rcases List.mem_append.1 h' with h | h
    · unfold sinP at h
      cases k1 : y.kind == 1 with
      | true =>
        rw [k1, sel_true] at h
        obtain ⟨r, _, rfl⟩ := List.mem_map.1 h
        have := chrP_len r; omega
      | false =>
        rw [k1, sel_false, List.mem_singleton] at h
        subst h; omega
    · have := sin_txt l x h; omega
theorem rct0 {H H0 : List AObj} {pos : List Int} {ta : Tag} (hl : pos.length ≤ 1000) {v0 : AV} {n2 : Nat} (hn2 : n2 ≤ 1000000) (hc : CutOk H0 H) (k : List Fra) : ∀ (n i : Nat) (He : List AObj), i + n = pos.length →
    M.go a_truchmanref01_Cut H0 (.c l_truchmanref01_Cut_0 :: .lp ⟨(some [0, 1, 6, 8]), [], false⟩ l_truchmanref01_Cut_0 He :: .blk 0 :: .c (.lv [0, 1]) :: k) (kv [(0, v0), (1, .slice ta 1 (pos.map intRow)), (6, .int .i64 n2), (8, .int .i64 i)]) H =
      sel (okA n2 (prv pos i) (pos.drop i)) (M.go a_truchmanref01_Cut H0 k (kv [(0, v0), (1, .slice ta 1 (pos.map intRow))]) (H)) (some (.ret (.tuple [.slice .nil 1 [], .int .u8 1]), H.take H0.length))
  | 0, i, He, h => by
    have e : i = pos.length := by omega
    subst e
    rw [go_head M l_truchmanref01_Cut_0.eq_1]
    simp (maxSteps := 3000000) (maxDischargeDepth := 6) +contextual -implicitDefEqProofs only [amC M, ↓amD, Nat.reduceBEq, Nat.reduceAdd, env, fargs, q_truchmanref01_Cut, Nat.lt_irrefl, List.drop_length, okA]
  | n + 1, i, He, h => by
    have hi : i < pos.length := by omega
    have hx : pos[i]? = some pos[i] := List.getElem?_eq_getElem hi
    have hd : (pos.drop i) = pos[i] :: pos.drop (i + 1) := List.drop_eq_getElem_cons hi
    have hm : pos[i] ∈ pos := List.getElem_mem hi
    have ih := fun He => rct0 (H := H) (H0 := H0) (pos := pos) (ta := ta) (hl := hl) (v0 := v0) (n2 := n2) (hn2 := hn2) hc k n (i + 1)  He (by omega)
    simp only [kv_cons, kv_nil] at ih
    have hwi := wrap_s (n := pos.length) hi (by simp only [maxL]; omega)
    have hir := ias_row (row := intRow) (tag := ta) (sz := 1) (k := .i64) hi
    have hw1 : IntKind.i64.wrap ((n2 : Int) - 1) = (n2 : Int) - 1 := wrap_i64 (by omega) (by omega)
    have hpv : prv pos (i + 1) = some pos[i] := hx
    have hde := deepE hc 1 1
    rw [hd, okA_cons]
    rw [hpv] at ih
    cases d1 : decide (pos[i] < 1) with
    | true =>
      rw [go_head M l_truchmanref01_Cut_0.eq_1]
      simp (maxSteps := 3000000) (maxDischargeDepth := 6) +contextual -implicitDefEqProofs only [amC M, ↓amD, Nat.reduceBEq, Nat.reduceAdd, env, fargs, q_truchmanref01_Cut, hi, hx, hir, qIntR, d1, hde, Bool.not_true, Bool.false_and]
    | false =>
      cases d2 : decide ((n2 : Int) - 1 < pos[i]) with
      | true =>
        rw [go_head M l_truchmanref01_Cut_0.eq_1]
        simp (maxSteps := 3000000) (maxDischargeDepth := 6) +contextual -implicitDefEqProofs only [amC M, ↓amD, Nat.reduceBEq, Nat.reduceAdd, env, fargs, q_truchmanref01_Cut, hi, hx, hir, qIntR, d1, hw1, d2, hde, Bool.not_true, Bool.not_false, Bool.true_and, Bool.false_and]
      | false =>
        cases i with
        | zero =>
          have d3 : decide ((0 : Int) < ((0 : Nat) : Int)) = false := rfl
          rw [go_head M l_truchmanref01_Cut_0.eq_1]
          simp (maxSteps := 3000000) (maxDischargeDepth := 6) +contextual -implicitDefEqProofs only [amC M, ↓amD, Nat.reduceBEq, Nat.reduceAdd, env, fargs, q_truchmanref01_Cut, hi, hx, hir, qIntR, d1, hw1, d2, d3, hwi, ih, prv, Bool.not_true, Bool.not_false, Bool.true_and, Bool.false_and]
        | succ i =>
          have hi0 : i < pos.length := by omega
          have hx0 : pos[i]? = some pos[i] := List.getElem?_eq_getElem hi0
          have hir0 := ias_row (row := intRow) (tag := ta) (sz := 1) (k := .i64) hi0
          have d3 : decide ((0 : Int) < ((i + 1 : Nat) : Int)) = true := decide_eq_true (by omega)
          have hw3 : IntKind.i64.wrap (((i + 1 : Nat) : Int) - 1) = (i : Int) := by rw [wrap_i64 (by omega) (by omega)]; omega
          have hpv0 : prv pos (i + 1) = some pos[i] := hx0
          rw [hpv0]
          cases d4 : decide (pos[i + 1] ≤ pos[i]) with
          | true =>
            rw [go_head M l_truchmanref01_Cut_0.eq_1]
            simp (maxSteps := 3000000) (maxDischargeDepth := 6) +contextual -implicitDefEqProofs only [amC M, ↓amD, Nat.reduceBEq, Nat.reduceAdd, env, fargs, q_truchmanref01_Cut, hi, hx, hx0, hir, hir0, qIntR, d1, hw1, d2, d3, hw3, d4, hde, Bool.not_true, Bool.not_false, Bool.true_and, Bool.false_and]
          | false =>
            rw [go_head M l_truchmanref01_Cut_0.eq_1]
            simp (maxSteps := 3000000) (maxDischargeDepth := 6) +contextual -implicitDefEqProofs only [amC M, ↓amD, Nat.reduceBEq, Nat.reduceAdd, env, fargs, q_truchmanref01_Cut, hi, hx, hx0, hir, hir0, qIntR, d1, hw1, d2, d3, hw3, d4, hwi, ih, Bool.not_true, Bool.not_false, Bool.true_and, Bool.false_and]
theorem rct4 {H H0 : List AObj} (hc : CutOk H0 H) {tg : Tag} {ws : List AV} {pl : List (List Piece)} (hl : ws.length = pl.length) (hb : pl.length ≤ 1000000) (hw : ∀ (i : Nat) (w : AV) (l : List Piece), ws[i]? = some w → pl[i]? = some l → PcV H w l) (k : List Fra) : ∀ (n i : Nat) (He : List AObj), i + n = pl.length →
    M.go a_truchmanref01_Cut H0 (.c l_truchmanref01_Cut_4 :: .lp ⟨(some [10, 18]), [], false⟩ l_truchmanref01_Cut_4 He :: .blk 9 :: .c (.lv [10]) :: k) (kv [(10, .slice tg 1 (ws.map fnRow)), (18, .int .i64 i)]) H =
      sel ((pl.drop i).any bigP) (some (.ret (.tuple [.slice .nil 1 [], .int .u8 3]), H.take H0.length)) (M.go a_truchmanref01_Cut H0 k (kv [(10, .slice tg 1 (ws.map fnRow))]) H)
  | 0, i, He, h => by
    have e : ¬ i < ws.length := by omega
    have e2 : pl.drop i = [] := List.drop_of_length_le (by omega)
    rw [e2, List.any_nil, sel_false]
    rw [go_head M l_truchmanref01_Cut_4.eq_1]
    simp (maxSteps := 3000000) (maxDischargeDepth := 6) +contextual -implicitDefEqProofs only [amC M, ↓amD, Nat.reduceBEq, Nat.reduceAdd, env, fargs, q_truchmanref01_Cut, e]
  | n + 1, i, He, h => by
    have hi : i < pl.length := by omega
    have hiw : i < ws.length := by omega
    have hx : pl[i]? = some pl[i] := List.getElem?_eq_getElem hi
    have hxw : ws[i]? = some ws[i] := List.getElem?_eq_getElem hiw
    have hd : (pl.drop i) = pl[i] :: pl.drop (i + 1) := List.drop_eq_getElem_cons hi
    have hlw := fun G => lenPcV (G := G) (hw i _ _ hxw hx)
    have hir := ias_row (row := fnRow) (tag := tg) (sz := 1) (k := .i64) hiw
    have qf : ∀ v : AV, rload none (fnRow v) 0 = some v := fun _ => rfl
    have hwi := wrap_s (n := pl.length) hi (by simp only [maxL]; omega)
    have ih := fun He => rct4 hc (tg := tg) hl hb hw k n (i + 1) He (by omega)
    simp only [kv_cons, kv_nil] at ih
    have hde := deepE hc 1 3
    rw [hd, List.any_cons, bigP]
    cases hbg : decide ((512 : Int) < (pl[i].length : Int)) with
    | true =>
      rw [Bool.true_or, sel_true]
      rw [go_head M l_truchmanref01_Cut_4.eq_1]
      simp (maxSteps := 3000000) (maxDischargeDepth := 6) +contextual -implicitDefEqProofs only [amC M, ↓amD, Nat.reduceBEq, Nat.reduceAdd, env, fargs, q_truchmanref01_Cut, hiw, hxw, hir, qf, hlw, hbg, hde]
    | false =>
      rw [Bool.false_or]
      rw [go_head M l_truchmanref01_Cut_4.eq_1]
      simp (maxSteps := 3000000) (maxDischargeDepth := 6) +contextual -implicitDefEqProofs only [amC M, ↓amD, Nat.reduceBEq, Nat.reduceAdd, env, fargs, q_truchmanref01_Cut, hiw, hxw, hir, qf, hlw, hbg, hwi, ih]
def refX (l : List Piece) (pos : List Int) : CSt := (sinL l).foldl (refS pos) ⟨[], [], [], 0, false, []⟩
def refL (l : List Piece) (pos : List Int) : List (List Piece) := (refX l pos).done ++ [(refX l pos).cur]
def refRV (l : List Piece) (pos : List Int) : AV :=
  sel (checkP l == 0) (sel (okA ((unL l).length : Int) none pos) (sel ((refL l pos).any bigP) (.tuple [.slice .nil 1 [], .int .u8 3]) (.tuple [.slice .any 1 ((refL l pos).map plR), .int .u8 0])) (.tuple [.slice .nil 1 [], .int .u8 1])) (.tuple [.slice .nil 1 [], .int .u8 (checkP l)])
theorem run_rCut (hB : BasE E) (hU : BrkE E) (hC : CutE E) {l : Sl Piece} {pos : List Int} {ta : Tag} (hsz : l.l.length + txtN l.l ≤ 2600) (hpl : pos.length ≤ 1000) (H : List AObj) :
    M.run f_truchmanref01_Cut [.slice l.tag 3 (l.l.map Piece.row), .slice ta 1 (pos.map intRow)] H = some (.ret (refRV l.l pos), H) := by
  have htx : ∀ x ∈ l.l, x.text.length ≤ 2600 := fun x hx => by have := txtN_mem hx; omega
  have hul := unL_len l.l
  have u1 := fun H => run_rUnits M hB hU (l := l) (by omega) (fun x hx => by have := htx x hx; omega) (by omega) H
  have deS := fun e => deepE (cut_refl H) 1 e
  simp only [hp_self] at deS
  rw [run_c M hC.truchmanref01_Cut rfl (c := c_truchmanref01_Cut) rfl, c_truchmanref01_Cut]
  cases c0 : checkP l.l == 0 with
  | false =>
    have hne : ¬ checkP l.l = 0 := by simpa using c0
    rw [unitsF, if_neg hne] at u1
    simp (maxSteps := 3000000) (maxDischargeDepth := 6) +contextual -implicitDefEqProofs only [amC M, ↓amD, Nat.reduceBEq, Nat.reduceAdd, env, fargs, q_truchmanref01_Cut, u1, aextract, List.getElem?_cons_succ, c0, refRV, deS]
  | true =>
    have e0 : checkP l.l = 0 := by simpa using c0
    rw [unitsF, if_pos e0] at u1
    have h1 := fun k He => rct0 M (ta := ta) hpl (v0 := .slice l.tag 3 (l.l.map Piece.row)) (n2 := (unL l.l).length) (by omega) (cut_refl H) k pos.length 0 He (by omega)
    simp only [kv_cons, kv_nil, Int.ofNat_zero, List.drop_zero, show prv pos 0 = none from rfl] at h1
    cases c1 : okA ((unL l.l).length : Int) none pos with
    | false =>
      simp only [c1, sel_false] at h1
      simp (maxSteps := 3000000) (maxDischargeDepth := 6) +contextual -implicitDefEqProofs only [amC M, ↓amD, Nat.reduceBEq, Nat.reduceAdd, env, fargs, q_truchmanref01_Cut, u1, aextract, List.getElem?_cons_succ, c0, (show ((0 : Int) == 0) = true from rfl), h1, c1, refRV, hp_self]
    | true =>
      simp only [c1, sel_true] at h1
      have hsl := sinL_len l.l
      have g1 := fun H => run_single M hC (l := l.l) (tg := l.tag) (by omega) (fun x hx => by have := htx x hx; omega) (by omega) H
      have w0 : RefW H.length (fun i => i < H.length) (H ++ [.tok 0 t_sl_api_Piece]) ⟨[], [], [], 0, false, []⟩ 0 [] (.slice .nil 3 []) (.slice .nil 1 []) := ⟨fun i hi => by simp; omega, by omega, by rw [hp_get0]; rfl, rfl, fun i w l h => by simp at h, .inl ⟨rfl, rfl⟩, fun Q o n e r eq => (by cases eq), fun Q o n e r eq => (by cases eq), by simp, .inl ⟨rfl, rfl⟩, fun Q o n e r eq => (by cases eq)⟩
      have b0 : CBm 0 ⟨[], [], [], 0, false, []⟩ := ⟨Nat.le_refl _, fun s hs => (by cases hs), Nat.le_refl _, Nat.le_refl _, fun x hx => (by cases hx), Nat.le_refl _⟩
      have hsum : sumS (sinL l.l) ≤ 20000 := by have := sumS_sin l.l; rw [sumP_eq] at this; omega
      obtain ⟨H1, q1, vs, v, ov, e1, w1, f1, b1⟩ := rc3 M hC (ta := ta) hpl (s := sinL l.l) (by omega) (fun x hx => by have := sin_txt l.l x hx; omega) (H0 := H) (sinL l.l).length 0 0 _ _ 0 [] _ _ (by omega) w0 b0 (by rw [List.drop_zero]; exact sinL_ops _ _ (checkP_ops e0)) (by rw [List.drop_zero]; omega)
      rw [List.drop_zero] at w1 b1
      have hX : (sinL l.l).foldl (refS pos) ⟨[], [], [], 0, false, []⟩ = refX l.l pos := rfl
      rw [hX] at w1 b1
      have hdn := b1.done
      obtain ⟨p1, p2, p3⟩ := w1.push (by omega)
      have hlow := f1.trans p3
      generalize hG : H1.set H.length _ = G at p1 p2 p3 hlow
      have hlen : (vs ++ [v]).length = (refL l.l pos).length := by have := p2.len; simpa [refL] using this
      have hws : ∀ (i : Nat) (w : AV) (p : List Piece), (vs ++ [v])[i]? = some w → (refL l.l pos)[i]? = some p → PcV G w p ∧ free (fun i => i < H.length) w := fun i w p hi hp => ⟨(p2.dn i w p hi hp).1, (p2.dn i w p hi hp).2.2⟩
      have hk : G.take H.length = H := by
        have hgl := hlow.len
        refine List.ext_getElem? fun i => ?_
        by_cases hi : i < H.length
        · rw [List.getElem?_take_of_lt hi, hlow.low i hi, List.getElem?_append_left hi]
        · rw [List.getElem?_eq_none (by simp; omega), List.getElem?_eq_none (by omega)]
      have hcut : CutOk H G := ⟨by have := hlow.len; simp at this; omega, fun i x hi hx => .inl (by rw [← hk, List.getElem?_take_of_lt hi]; exact hx)⟩
      have h4 := fun k He => rct4 M hcut (tg := .own H.length) hlen (by rw [← hlen]; have := w1.len; simp; omega) (fun i w p hi hp => (hws i w p hi hp).1) k (refL l.l pos).length 0 He (by omega)
      simp only [kv_cons, kv_nil, Int.ofNat_zero, List.drop_zero, hk, List.map_nil] at h4 e1
      have hfz : Fz H.length G (.tuple [.slice (.own H.length) 1 ((vs ++ [v]).map fnRow), .int .u8 0]) (.tuple [.slice .any 1 ((refL l.l pos).map plR), .int .u8 0]) := by
        refine ⟨6, fz_tuple (mapO_cons (fz_rows (t := .own H.length) ?_) (mapO_cons (fz_int _ _ _ _ _) (mapO_nil _)))⟩
        refine mapO_all (by rw [List.length_map, List.length_map]; exact hlen) fun i x y hx hy => ?_
        rw [List.getElem?_map] at hx hy
        cases hxi : (vs ++ [v])[i]? with
        | none => rw [hxi] at hx; cases hx
        | some w =>
          cases hyi : (refL l.l pos)[i]? with
          | none => rw [hyi] at hy; cases hy
          | some p =>
            rw [hxi] at hx; rw [hyi] at hy; cases hx; cases hy
            obtain ⟨g1, g2⟩ := hws i w p hxi hyi
            exact mapO_cons (fz_pc g1 g2) (mapO_nil _)
      have hh := handV_deep hcut hfz
      rw [hk] at hh
      have ac1 := (cell_PcV w1.cr).2
      have sp1 := strip_PcV w1.cr
      have sr1 : ∀ a b : AV, setRow [a] 0 [b] = [b] := fun _ _ => rfl
      generalize hR1 : (vs ++ [v]).map fnRow = R1 at p1 h4 hh
      cases c2 : (refL l.l pos).any bigP with
      | true =>
        simp only [c2, sel_true] at h4
        simp (maxSteps := 3000000) (maxDischargeDepth := 6) +contextual -implicitDefEqProofs only [amC M, ↓amD, Nat.reduceBEq, Nat.reduceAdd, env, fargs, q_truchmanref01_Cut, amG, AV.cell, Nat.reduceMul, Nat.reduceLeDiff, u1, aextract, List.getElem?_cons_succ, c0, (show ((0 : Int) == 0) = true from rfl), h1, c1, g1, e1, ac1, sp1, sr1, p1, h4, c2, refRV]
      | false =>
        simp only [c2, sel_false] at h4
        simp (maxSteps := 3000000) (maxDischargeDepth := 6) +contextual -implicitDefEqProofs only [amC M, ↓amD, Nat.reduceBEq, Nat.reduceAdd, env, fargs, q_truchmanref01_Cut, amG, AV.cell, Nat.reduceMul, Nat.reduceLeDiff, u1, aextract, List.getElem?_cons_succ, c0, (show ((0 : Int) == 0) = true from rfl), h1, c1, g1, e1, ac1, sp1, sr1, p1, h4, c2, hh, refRV]
end Go.Am
end

section
set_option linter.unusedSimpArgs false
set_option linter.unusedVariables false
set_option maxRecDepth 100000
set_option maxHeartbeats 4000000
namespace Go.Am
open Go.RowKit
attribute [local congr] dsel_congr sel_c1 slc_cong gsel_congr go_congr aft_congr aftD_congr condR_congr backR_congr inR_congr at2_congr
variable {E : REnv} (M : Mach cdec E)

/-! Both ways to cut are one -/
theorem okA_inc : ∀ (l : List Int) (n : Int) (p : Option Int), okA n p l = true → (∀ (i : Nat) (x y : Int), l[i]? = some x → l[i + 1]? = some y → x < y) ∧ (∀ x ∈ l, 1 ≤ x ∧ x ≤ n - 1) ∧ ∀ q x, p = some q → l[0]? = some x → q < x
  | [], n, p, _ => ⟨fun i x y h => (by simp at h), fun x h => (by cases h), fun q x _ h => (by simp at h)⟩
  | k :: t, n, p, h => by
    rw [okA_cons, Bool.and_eq_true, Bool.and_eq_true, Bool.and_eq_true] at h
    obtain ⟨h1, h2, h3, h4⟩ := h
    obtain ⟨i1, i2, i3⟩ := okA_inc t n (some k) h4
    simp only [Bool.not_eq_true', decide_eq_false_iff_not] at h1 h2
    refine ⟨fun i x y hx hy => ?_, fun x hx => ?_, fun q x hq hx => ?_⟩
    · cases i with
      | zero =>
        rw [List.getElem?_cons_zero] at hx
        rw [List.getElem?_cons_succ] at hy
        exact i3 x y (by rw [← hx]) hy
      | succ i =>
        rw [List.getElem?_cons_succ] at hx hy
        exact i1 i x y hx hy
    · rcases List.mem_cons.1 hx with rfl | hx
      · omega
      · exact i2 x hx
    · rw [List.getElem?_cons_zero] at hx
      subst hq
      dsimp only at h3
      simp only [Bool.not_eq_true', decide_eq_false_iff_not] at h3
      injection hx with hx; omega
def hitP (pos : List Int) (T : CSt) : Bool := decide (T.done.length < pos.length) && ((T.place : Int) == pos.getD T.done.length 0)
structure RelC (pos : List Int) (S T : CSt) : Prop where
  done : S.done = T.done
  cur : S.cur = T.cur
  opn : S.opn = T.opn
  place : S.place = T.place
  due : S.due = hitP pos T
  pos : S.pos = pos.drop (T.done.length + (if S.due = true then 1 else 0))
theorem refC_hit (pos : List Int) (S : CSt) (x : Piece) : refC pos S x = (hitP pos S && !(x.kind == 3)) := by
  unfold refC hitP; rw [Bool.and_assoc]
theorem hit_turn {pos : List Int} (hinc : ∀ (i : Nat) (x y : Int), pos[i]? = some x → pos[i + 1]? = some y → x < y) {T : CSt} (h : hitP pos T = true) : hitP pos (refT T) = false := by
  unfold hitP at h ⊢
  rw [Bool.and_eq_true] at h
  obtain ⟨h1, h2⟩ := h
  have h1 := of_decide_eq_true h1
  have hx : pos[T.done.length]? = some pos[T.done.length] := List.getElem?_eq_getElem h1
  rw [List.getD_eq_getElem?_getD, hx] at h2
  have h2 : (T.place : Int) = pos[T.done.length] := eq_of_beq h2
  have hd : (refT T).done.length = T.done.length + 1 := by simp [refT]
  have hp : (refT T).place = T.place := rfl
  rw [hd, hp]
  by_cases hlt : T.done.length + 1 < pos.length
  · have hy : pos[T.done.length + 1]? = some pos[T.done.length + 1] := List.getElem?_eq_getElem hlt
    have := hinc _ _ _ hx hy
    rw [List.getD_eq_getElem?_getD, hy, decide_eq_true hlt, Bool.true_and]
    simp only [Option.getD_some, beq_eq_false_iff_ne]; omega
  · rw [decide_eq_false hlt]; rfl
theorem rel_turn {pos : List Int} (hinc : ∀ (i : Nat) (x y : Int), pos[i]? = some x → pos[i + 1]? = some y → x < y) {S T : CSt} (h : RelC pos S T) (hd : S.due = true) : RelC pos (turnF S) (refT T) := by
  have hh : hitP pos T = true := by rw [← h.due]; exact hd
  refine ⟨by simp [turnF, refT, h.done, h.cur, h.opn], by simp [turnF, refT, h.opn], h.opn, h.place, (hit_turn hinc hh).symm, ?_⟩
  have := h.pos
  rw [if_pos hd] at this
  show S.pos = _
  rw [this]; simp [turnF, refT]
theorem hitF_drop (pos : List Int) (m n : Nat) : hitF (pos.drop m) n = (decide (m < pos.length) && ((n : Int) == pos.getD m 0)) := by
  by_cases hlt : m < pos.length
  · rw [List.drop_eq_getElem_cons hlt, hitF, decide_eq_true hlt, Bool.true_and, List.getD_eq_getElem?_getD, List.getElem?_eq_getElem hlt, Option.getD_some]
    rw [Bool.eq_iff_iff]; simp only [beq_iff_eq]; exact ⟨fun h => h.symm, fun h => h.symm⟩
  · rw [List.drop_of_length_le (by omega), hitF, decide_eq_false hlt]; rfl
theorem rel_unit {pos : List Int} (hinc : ∀ (i : Nat) (x y : Int), pos[i]? = some x → pos[i + 1]? = some y → x < y) {S T : CSt} (h : RelC pos S T) {p : Piece} (hk : (p.kind == 1) = true ∨ (p.kind == 5) = true) : RelC pos (unitF S p) (refS pos T p) := by
  have k3 : (p.kind == 3) = false := by rcases hk with hk | hk <;> (rw [eq_of_beq hk]; rfl)
  have k2 : (p.kind == 2) = false := by rcases hk with hk | hk <;> (rw [eq_of_beq hk]; rfl)
  have k15 : ((p.kind == 1) || (p.kind == 5)) = true := by rcases hk with hk | hk <;> simp [hk]
  have h1 : RelC pos (due2 S) (sel (refC pos T p) (refT T) T) ∧ (due2 S).due = false := by
    rw [refC_hit, ← h.due, k3, Bool.not_false, Bool.and_true]
    unfold due2
    cases hd : S.due with
    | true => rw [sel_true, sel_true]; exact ⟨rel_turn hinc h hd, rfl⟩
    | false => rw [sel_false, sel_false]; exact ⟨h, hd⟩
  obtain ⟨h1, hdf⟩ := h1
  unfold refS
  generalize sel (refC pos T p) (refT T) T = T1 at h1
  have hps := h1.pos
  rw [if_neg (by simp [hdf]), Nat.add_zero] at hps
  have hh : hitF (due2 S).pos ((due2 S).place + 1) = hitP pos (refN T1 p) := by
    rw [hps, hitF_drop, h1.place]
    simp only [hitP, refN, k15, sel_true]
  refine ⟨h1.done, ?_, ?_, ?_, ?_, ?_⟩
  · show putF (due2 S).cur p = putF T1.cur p; rw [h1.cur]
  · show (due2 S).opn = opnF T1.opn p
    rw [h1.opn]; simp [opnF, k2, k3, sel_false]
  · show (due2 S).place + 1 = sel ((p.kind == 1) || (p.kind == 5)) (T1.place + 1) T1.place
    rw [k15, sel_true, h1.place]
  · show sel (hitF (due2 S).pos ((due2 S).place + 1)) true (due2 S).due = _
    rw [hh, hdf]; cases hitP pos (refN T1 p) <;> rfl
  · show sel (hitF (due2 S).pos ((due2 S).place + 1)) (due2 S).pos.tail (due2 S).pos = pos.drop (T1.done.length + if sel (hitF (due2 S).pos ((due2 S).place + 1)) true (due2 S).due = true then 1 else 0)
    rw [hdf]
    cases hitF (due2 S).pos ((due2 S).place + 1) with
    | true => rw [sel_true, sel_true, if_pos rfl, hps, List.tail_drop]
    | false => rw [sel_false, sel_false, if_neg (by simp), Nat.add_zero, hps]
theorem rel_tag {pos : List Int} (hinc : ∀ (i : Nat) (x y : Int), pos[i]? = some x → pos[i + 1]? = some y → x < y) {S T : CSt} (h : RelC pos S T) {p : Piece} (k1 : (p.kind == 1) = false) (k5 : (p.kind == 5) = false) : RelC pos (tagF S p) (refS pos T p) := by
  have h1 : RelC pos (due1 S p) (sel (refC pos T p) (refT T) T) := by
    rw [refC_hit, ← h.due]
    unfold due1
    cases hd : S.due && !(p.kind == 3) with
    | true =>
      rw [sel_true, sel_true]
      rw [Bool.and_eq_true] at hd
      exact rel_turn hinc h hd.1
    | false => rw [sel_false, sel_false]; exact h
  unfold refS
  generalize sel (refC pos T p) (refT T) T = T1 at h1
  have hh : hitP pos (refN T1 p) = hitP pos T1 := by simp only [hitP, refN, k1, k5, Bool.or_false, sel_false]
  refine ⟨h1.done, ?_, ?_, ?_, by rw [hh]; exact h1.due, h1.pos⟩
  · show putF (due1 S p).cur p = putF T1.cur p; rw [h1.cur]
  · show opnF (due1 S p).opn p = opnF T1.opn p; rw [h1.opn]
  · show (due1 S p).place = sel ((p.kind == 1) || (p.kind == 5)) (T1.place + 1) T1.place
    rw [k1, k5, Bool.or_false, sel_false, h1.place]
theorem rel_runes {pos : List Int} (hinc : ∀ (i : Nat) (x y : Int), pos[i]? = some x → pos[i + 1]? = some y → x < y) : ∀ (rs : List Nat) {S T : CSt}, RelC pos S T → RelC pos (rs.foldl (fun S r => unitF S (chrP r)) S) ((rs.map chrP).foldl (refS pos) T)
  | [], S, T, h => h
  | r :: rs, S, T, h => by
    rw [List.foldl_cons, List.map_cons, List.foldl_cons]
    exact rel_runes hinc rs (rel_unit hinc h (.inl rfl))
theorem rel_cuts {pos : List Int} (hinc : ∀ (i : Nat) (x y : Int), pos[i]? = some x → pos[i + 1]? = some y → x < y) : ∀ (l : List Piece) {S T : CSt}, RelC pos S T → RelC pos (cutsF S l) ((sinL l).foldl (refS pos) T)
  | [], S, T, h => h
  | x :: l, S, T, h => by
    have hs : sinL (x :: l) = sinP x ++ sinL l := rfl
    rw [hs, List.foldl_append]
    refine rel_cuts hinc l (S := stpF S x) ?_
    unfold stpF sinP
    cases k1 : x.kind == 1 with
    | true => rw [sel_true, sel_true]; exact rel_runes hinc _ h
    | false =>
      rw [sel_false, sel_false, List.foldl_cons, List.foldl_nil]
      cases k5 : x.kind == 5 with
      | true => rw [sel_true]; exact rel_unit hinc h (.inr k5)
      | false => rw [sel_false]; exact rel_tag hinc h k1 k5
theorem cut_same {l : List Piece} {pos : List Int} {n : Int} (h : okA n none pos = true) : cutL l pos = refL l pos := by
  obtain ⟨h1, h2, _⟩ := okA_inc pos n none h
  have h0 : RelC pos ⟨[], [], pos, 0, false, []⟩ ⟨[], [], [], 0, false, []⟩ := by
    refine ⟨rfl, rfl, rfl, rfl, ?_, rfl⟩
    unfold hitP
    cases pos with
    | nil => rfl
    | cons x t =>
      have := h2 x List.mem_cons_self
      simp only [List.length_nil, List.getD_cons_zero]
      symm
      rw [Bool.and_eq_false_iff]; right
      simp only [beq_eq_false_iff_ne]; omega
  have := rel_cuts h1 l h0
  unfold cutL refL
  rw [show cutS l pos = cutsF ⟨[], [], pos, 0, false, []⟩ l from rfl, show refX l pos = (sinL l).foldl (refS pos) ⟨[], [], [], 0, false, []⟩ from rfl, this.done, this.cur]
end Go.Am
end

section
set_option linter.unusedSimpArgs false
set_option linter.unusedVariables false
set_option maxRecDepth 100000
set_option maxHeartbeats 4000000
namespace Go.Am
open Go.RowKit
attribute [local congr] dsel_congr sel_c1 slc_cong gsel_congr go_congr aft_congr aftD_congr condR_congr backR_congr inR_congr at2_congr
variable {E : REnv} (M : Mach cdec E)

/-! Carried tags at the ends of parts -/
def carO (k : Int) (l : List Piece) : List Str := (l.filter fun x => x.car && (x.kind == k)).map (·.text)
theorem carO_cons (k : Int) (x : Piece) (l : List Piece) : carO k (x :: l) = sel (x.car && (x.kind == k)) [x.text] [] ++ carO k l := by
  unfold carO
  rw [List.filter_cons]
  cases x.car && (x.kind == k) <;> rfl
theorem OpV.own {H H' : List AObj} {v : AV} {l : List Str} (h : OpV H v l) (hs : ∀ (O : Nat) (y : AObj), v = .rslice O 0 l.length 1 true → H[O]? = some y → H'[O]? = some y) : OpV H' v l := by
  rcases h with h | ⟨O, junk, h1, h2⟩
  · exact .inl h
  · exact .inr ⟨O, junk, h1, hs O _ h1 h2⟩
theorem ap_op2 {G : List AObj} {v : AV} {l : List Str} (h : OpV G v l) (hl : l.length ≤ 1000000) (s : Str) :
    ∃ G', rap true G t_string 1 16 false v (.slice .full 1 [[.str s]]) = some (.rslice G.length 0 (l.length + 1) 1 true, G') ∧ OpV G' (.rslice G.length 0 (l.length + 1) 1 true) (l ++ [s]) ∧ G.length < G'.length ∧ ∀ (i : Nat) (y : AObj), G[i]? = some y → (∀ O, v = .rslice O 0 l.length 1 true → i ≠ O) → G'[i]? = some y := by
  rcases h with ⟨rfl, rfl⟩ | ⟨O, junk, rfl, hg⟩
  · refine ⟨G ++ [.cells [.str s] t_string], ?_, .inr ⟨G.length, [], rfl, by rw [hp_get0]; rfl⟩, by simp, fun i y hi _ => hp_getl hi⟩
    simp only [rap, rappM, rsrc, or_true, if_true, rowsOk_str]
    rw [if_pos (by simp)]
    rfl
  · have hlt := lt_get hg
    have hlen : l.length * 1 ≤ (strC l ++ junk).length := by rw [List.length_append, strC_len]; omega
    refine ⟨G.set O .dead ++ [.cells (strC (l ++ [s])) t_string], ?_, .inr ⟨G.length, [], by simp, ?_⟩, by simp, fun i y hi hne => ?_⟩
    · simp only [rap, rappM, rsrc, or_true, if_true, rowsOk_str, hg]
      rw [if_pos ⟨trivial, trivial, hlen, by simp; omega, by simp; omega⟩]
      simp only [Nat.mul_one]
      rw [List.take_left' (by rw [strC_len]), strC_app]
      rfl
    · rw [List.append_nil, show G.length = (G.set O .dead).length by simp, hp_get0]; rfl
    · have := (List.getElem?_eq_some_iff.1 hi).1
      rw [List.getElem?_append_left (by simp; omega), List.getElem?_set_ne (hne O rfl).symm]; exact hi
theorem den (hC : CutE E) {H0 : List AObj} {l : List Piece} {tg : Tag} (hl : l.length ≤ 1000000) : ∀ (n i : Nat) (H : List AObj) (v w : AV) (a b : List Str), i + n = l.length → OpV H v a → OpV H w b → (∀ O O' len len', v = .rslice O 0 len 1 true → w = .rslice O' 0 len' 1 true → O ≠ O') → free (fun j => j < H0.length) v → free (fun j => j < H0.length) w → H0.length ≤ H.length → a.length ≤ i → b.length ≤ i →
    ∃ H' v' w', (∀ (k : List Fra) (He : List AObj), M.go a_docs_ends H0 (.c l_docs_ends_0 :: .lp ⟨(some [2, 3, 6, 7, 8]), [], false⟩ l_docs_ends_0 He :: .blk 0 :: .c (.lv [2, 3]) :: k) (kv [(2, v), (3, w), (6, .slice tg 3 (l.map Piece.row)), (7, .int .i64 l.length), (8, .int .i64 i)]) H = M.go a_docs_ends H0 k (kv [(2, v'), (3, w')]) H') ∧ OpV H' v' (a ++ carO 2 (l.drop i)) ∧ OpV H' w' (b ++ carO 3 (l.drop i)) ∧ (∀ O O' len len', v' = .rslice O 0 len 1 true → w' = .rslice O' 0 len' 1 true → O ≠ O') ∧ free (fun j => j < H0.length) v' ∧ H.length ≤ H'.length ∧ (∀ j, j < H0.length → H'[j]? = H[j]?)
  | 0, i, H, v, w, a, b, h, hv, hw, hne, fv, fw, hle, ha, hb => by
    have e : i = l.length := by omega
    subst e
    refine ⟨H, v, w, fun k He => ?_, by rw [List.drop_length]; simpa [carO] using hv, by rw [List.drop_length]; simpa [carO] using hw, hne, fv, Nat.le_refl _, fun _ _ => rfl⟩
    rw [go_head M l_docs_ends_0.eq_1]
    simp (maxSteps := 3000000) (maxDischargeDepth := 6) +contextual -implicitDefEqProofs only [amC M, ↓amD, Nat.reduceBEq, Nat.reduceAdd, env, fargs, q_docs_ends, Nat.lt_irrefl]
  | n + 1, i, H, v, w, a, b, h, hv, hw, hne, fv, fw, hle, ha, hb => by
    have hi : i < l.length := by omega
    have hx : l[i]? = some l[i] := List.getElem?_eq_getElem hi
    have hd : (l.drop i) = l[i] :: l.drop (i + 1) := List.drop_eq_getElem_cons hi
    have hwi := wrap_s (n := l.length) hi (by simp only [maxL]; omega)
    have hir := ias_row (row := Piece.row) (tag := tg) (sz := 3) (k := .i64) hi
    have gx := hp_get0 H [AObj.cells l[i].row t_api_Piece]
    rw [List.getElem?_cons_zero] at gx
    have hv1 : OpV (H ++ [AObj.cells l[i].row t_api_Piece]) v a := hv.stay fun O cs hO => hp_getl hO
    have hw1 : OpV (H ++ [AObj.cells l[i].row t_api_Piece]) w b := hw.stay fun O cs hO => hp_getl hO
    rw [hd, carO_cons, carO_cons]
    have lt_of : ∀ {v : AV} {a : List Str}, OpV H v a → ∀ O len, v = .rslice O 0 len 1 true → O < H.length := fun {v a} hv O len e => by
      rcases hv with ⟨_, hv⟩ | ⟨O', junk, hv, hO⟩
      · rw [hv] at e; cases e
      · rw [hv] at e; cases e; exact lt_get hO
    -- one round
    have one : ∃ H1 v1 w1, (∀ (k : List Fra) (He : List AObj), M.go a_docs_ends H0 (.c l_docs_ends_0 :: .lp ⟨(some [2, 3, 6, 7, 8]), [], false⟩ l_docs_ends_0 He :: .blk 0 :: .c (.lv [2, 3]) :: k) (kv [(2, v), (3, w), (6, .slice tg 3 (l.map Piece.row)), (7, .int .i64 l.length), (8, .int .i64 i)]) H =
        M.go a_docs_ends H0 (.c l_docs_ends_0 :: .lp ⟨(some [2, 3, 6, 7, 8]), [], false⟩ l_docs_ends_0 H1 :: .blk 0 :: .c (.lv [2, 3]) :: k) (kv [(2, v1), (3, w1), (6, .slice tg 3 (l.map Piece.row)), (7, .int .i64 l.length), (8, .int .i64 ((i + 1 : Nat) : Int))]) H1) ∧
        OpV H1 v1 (a ++ sel (l[i].car && (l[i].kind == 2)) [l[i].text] []) ∧ OpV H1 w1 (b ++ sel (l[i].car && (l[i].kind == 3)) [l[i].text] []) ∧ (∀ O O' len len', v1 = .rslice O 0 len 1 true → w1 = .rslice O' 0 len' 1 true → O ≠ O') ∧ free (fun j => j < H0.length) v1 ∧ free (fun j => j < H0.length) w1 ∧ H.length ≤ H1.length ∧ (∀ j, j < H0.length → H1[j]? = H[j]?) := by
      have keep : ∀ {u : AV} {d : List Str} {G1 : List AObj}, OpV H u d → free (fun j => j < H0.length) u → (∀ (i' : Nat) (y : AObj), (H ++ [AObj.cells l[i].row t_api_Piece])[i']? = some y → (∀ O, u = .rslice O 0 d.length 1 true → i' ≠ O) → G1[i']? = some y) → ∀ j, j < H0.length → G1[j]? = H[j]? := fun {u d G1} hu fu hk j hj => by
        have hlt : j < H.length := by omega
        rw [List.getElem?_eq_getElem hlt]
        exact hk j _ (hp_getl (List.getElem?_eq_getElem hlt)) fun O e ei => fu O _ _ _ _ e (by omega)
      cases k2 : l[i].car && (l[i].kind == 2) with
      | true =>
        rw [Bool.and_eq_true] at k2
        have k3 : (l[i].kind == 3) = false := by rw [eq_of_beq k2.2]; rfl
        obtain ⟨G1, a1, a2, a3, a4⟩ := ap_op2 hv1 (by omega) l[i].text
        have hlg : (H ++ [AObj.cells l[i].row t_api_Piece]).length = H.length + 1 := by simp
        rw [hlg] at a1 a2 a3
        refine ⟨G1, _, w, fun k He => ?_, by rw [sel_true]; exact a2, by rw [k3, Bool.and_false, sel_false, List.append_nil]; exact hw1.own fun O y e hO => a4 O y hO fun O' e' ei => hne O' O _ _ e' e ei.symm, fun O O' len len' e1 e2 => ?_, fun Q o n e r eq => (by cases eq; omega), fw, by omega, keep hv fv a4⟩
        · rw [go_head M l_docs_ends_0.eq_1]
          simp (maxSteps := 3000000) (maxDischargeDepth := 6) +contextual -implicitDefEqProofs only [amC M, ↓amD, Nat.reduceBEq, Nat.reduceAdd, env, fargs, q_docs_ends, amG, AV.cell, Nat.reduceMul, Nat.reduceLeDiff, hi, hx, hir, hwi, gx, k2.1, k2.2, qPiece, a1]
        · cases e1
          have := lt_of hw O' len' e2; omega
      | false =>
        rw [sel_false, List.append_nil]
        cases k3 : l[i].car && (l[i].kind == 3) with
        | true =>
          rw [Bool.and_eq_true] at k3
          have k2f : (l[i].kind == 2) = false := by rw [eq_of_beq k3.2]; rfl
          obtain ⟨G1, a1, a2, a3, a4⟩ := ap_op2 hw1 (by omega) l[i].text
          have hlg : (H ++ [AObj.cells l[i].row t_api_Piece]).length = H.length + 1 := by simp
          rw [hlg] at a1 a2 a3
          refine ⟨G1, v, _, fun k He => ?_, hv1.own fun O y e hO => a4 O y hO fun O' e' ei => hne O O' _ _ e e' ei, by rw [sel_true]; exact a2, fun O O' len len' e1 e2 => ?_, fv, fun Q o n e r eq => (by cases eq; omega), by omega, keep hw fw a4⟩
          · rw [go_head M l_docs_ends_0.eq_1]
            simp (maxSteps := 3000000) (maxDischargeDepth := 6) +contextual -implicitDefEqProofs only [amC M, ↓amD, Nat.reduceBEq, Nat.reduceAdd, env, fargs, q_docs_ends, amG, AV.cell, Nat.reduceMul, Nat.reduceLeDiff, hi, hx, hir, hwi, gx, k3.1, k2f, k3.2, qPiece, a1]
          · cases e2
            have := lt_of hv O len e1; omega
        | false =>
          rw [sel_false, List.append_nil]
          refine ⟨_, v, w, fun k He => ?_, hv1, hw1, hne, fv, fw, by simp, fun j hj => List.getElem?_append_left (by omega)⟩
          cases kc : l[i].car with
          | false =>
            rw [go_head M l_docs_ends_0.eq_1]
            simp (maxSteps := 3000000) (maxDischargeDepth := 6) +contextual -implicitDefEqProofs only [amC M, ↓amD, Nat.reduceBEq, Nat.reduceAdd, env, fargs, q_docs_ends, amG, AV.cell, Nat.reduceMul, Nat.reduceLeDiff, hi, hx, hir, hwi, gx, kc, qPiece]
          | true =>
            rw [kc, Bool.true_and] at k2 k3
            rw [go_head M l_docs_ends_0.eq_1]
            simp (maxSteps := 3000000) (maxDischargeDepth := 6) +contextual -implicitDefEqProofs only [amC M, ↓amD, Nat.reduceBEq, Nat.reduceAdd, env, fargs, q_docs_ends, amG, AV.cell, Nat.reduceMul, Nat.reduceLeDiff, hi, hx, hir, hwi, gx, kc, k2, k3, qPiece]
    obtain ⟨H1, v1, w1, o1, o2, o3, o4, o5, o6, o7, o8⟩ := one
    have la : (sel (l[i].car && (l[i].kind == 2)) [l[i].text] []).length ≤ 1 := by cases l[i].car && (l[i].kind == 2) <;> simp [sel_true, sel_false]
    have lb : (sel (l[i].car && (l[i].kind == 3)) [l[i].text] []).length ≤ 1 := by cases l[i].car && (l[i].kind == 3) <;> simp [sel_true, sel_false]
    obtain ⟨H2, v2, w2, i1, i2, i3, i4, i5, i6, i7⟩ := den hC (H0 := H0) (tg := tg) hl n (i + 1) H1 v1 w1 _ _ (by omega) o2 o3 o4 o5 o6 (by omega) (by rw [List.length_append]; omega) (by rw [List.length_append]; omega)
    exact ⟨H2, v2, w2, fun k He => by rw [o1 k He, i1 k H1], by rw [← List.append_assoc]; exact i2, by rw [← List.append_assoc]; exact i3, i4, i5, by omega, fun j hj => by rw [i7 j hj, o8 j hj]⟩
theorem run_ends (hC : CutE E) {l : List Piece} {tg : Tag} (hl : l.length ≤ 1000000) (H : List AObj) : ∃ H' v w, M.run f_docs_ends [.slice tg 3 (l.map Piece.row)] H = some (.ret (.tuple [v, w]), H') ∧ OpV H' v (carO 2 l) ∧ OpV H' w (carO 3 l) ∧ (∀ O O' len len', v = .rslice O 0 len 1 true → w = .rslice O' 0 len' 1 true → O ≠ O') ∧ free (fun j => j < H.length) v ∧ H.length ≤ H'.length ∧ ∀ j, j < H.length → H'[j]? = H[j]? := by
  obtain ⟨H', v, w, e1, e2, e3, e4, e5, e6, e7⟩ := den M hC (H0 := H) (tg := tg) hl l.length 0 H (.slice .nil 1 []) (.slice .nil 1 []) [] [] (by omega) (.inl ⟨rfl, rfl⟩) (.inl ⟨rfl, rfl⟩) (fun O O' len len' e => (by cases e)) (fun Q o n e r eq => (by cases eq)) (fun Q o n e r eq => (by cases eq)) (Nat.le_refl _) (Nat.le_refl _) (Nat.le_refl _)
  rw [List.drop_zero, List.nil_append] at e2 e3
  refine ⟨H', v, w, ?_, e2, e3, e4, e5, e6, e7⟩
  simp only [kv_cons, kv_nil, Int.ofNat_zero] at e1
  rw [run_c M hC.docs_ends rfl (c := c_docs_ends) rfl, c_docs_ends]
  simp (maxSteps := 3000000) (maxDischargeDepth := 6) +contextual -implicitDefEqProofs only [amC M, ↓amD, Nat.reduceBEq, Nat.reduceAdd, env, fargs, q_docs_ends, List.length_map, e1]
end Go.Am
end

section
set_option linter.unusedSimpArgs false
set_option linter.unusedVariables false
set_option maxRecDepth 100000
set_option maxHeartbeats 4000000
namespace Go.Am
open Go.RowKit
attribute [local congr] dsel_congr sel_c1 slc_cong gsel_congr go_congr aft_congr aftD_congr condR_congr backR_congr inR_congr at2_congr
variable {E : REnv} (M : Mach cdec E)

/-! slices.Reverse and slices.Equal of strings -/
theorem strC_set (l : List Str) (i : Nat) (s : Str) : (strC l).set i (.str s) = strC (l.set i s) := by
  unfold strC; rw [List.map_set]
theorem set_junk {l : List Str} {junk : List AV} {i : Nat} (hi : i < l.length) (s : Str) : setRow (strC l ++ junk) i [.str s] = strC (l.set i s) ++ junk := by
  rw [setRow_cons, setRow_nil, List.set_append_left _ _ (by rw [strC_len]; exact hi), strC_set]
theorem ld_junk {l : List Str} {junk : List AV} {i : Nat} {s : Str} (h : l[i]? = some s) : rload none (strC l ++ junk) i = some (.str s) := by
  have hlt := (List.getElem?_eq_some_iff.1 h).1
  simp only [rload]
  rw [List.getElem?_append_left (by rw [strC_len]; exact hlt), strC, List.getElem?_map, h]; rfl
theorem rvl {H0 : List AObj} {O : Nat} {junk : List AV} {len : Nat} (hlen : len ≤ 1000000) : ∀ (n i j : Nat) (G : List AObj) (l : List Str), j - i ≤ n → i ≤ j + 1 → j < len → l.length = len → G[O]? = some (.cells (strC l ++ junk) t_string) →
    ∃ G' l', (∀ (k : List Fra) (He : List AObj), M.go a_slices_Reverse_string_string H0 (.c l_slices_Reverse_string_string_0 :: .lp ⟨(some [0, 2, 3]), [], false⟩ l_slices_Reverse_string_string_0 He :: .blk 0 :: .c (.lv []) :: k) (kv [(0, .rslice O 0 len 1 true), (2, .int .i64 i), (3, .int .i64 j)]) G = M.go a_slices_Reverse_string_string H0 k .leaf G') ∧ G'[O]? = some (.cells (strC l' ++ junk) t_string) ∧ l'.length = len ∧ (∀ m, l'[m]? = if i ≤ m ∧ m ≤ j then l[i + j - m]? else l[m]?) ∧ G'.length = G.length ∧ ∀ m, m ≠ O → G'[m]? = G[m]?
  | n, i, j, G, l, hn, hij, hj, hl, hG => by
    by_cases hlt : i < j
    · obtain ⟨n, rfl⟩ : ∃ m, n = m + 1 := ⟨n - 1, by omega⟩
      have hi : i < l.length := by omega
      have hjl : j < l.length := by omega
      have xi : l[i]? = some l[i] := List.getElem?_eq_getElem hi
      have xj : l[j]? = some l[j] := List.getElem?_eq_getElem hjl
      have hOl := lt_get hG
      have hl2 : ((l.set i l[j]).set j l[i]).length = len := by simp [hl]
      have hG1 : (G.set O (AObj.cells (strC (l.set i l[j]) ++ junk) t_string))[O]? = some (.cells (strC (l.set i l[j]) ++ junk) t_string) := List.getElem?_set_self hOl
      have hG2 : ((G.set O (AObj.cells (strC (l.set i l[j]) ++ junk) t_string)).set O (AObj.cells (strC ((l.set i l[j]).set j l[i]) ++ junk) t_string))[O]? = some (.cells (strC ((l.set i l[j]).set j l[i]) ++ junk) t_string) := List.getElem?_set_self (by simpa using hOl)
      have so1 := stO_cells (sz := 1) (H := G) (id := O) (off := i) (cs := [.str l[j]]) (T := t_string) (old := strC l ++ junk) rfl (by rw [List.length_append, strC_len]; omega) rfl
      have so2 := stO_cells (sz := 1) (H := G.set O (AObj.cells (strC (l.set i l[j]) ++ junk) t_string)) (id := O) (off := j) (cs := [.str l[i]]) (T := t_string) (old := strC (l.set i l[j]) ++ junk) rfl (by rw [List.length_append, strC_len]; simp; omega) rfl
      rw [set_junk hi] at so1
      rw [set_junk (by simpa using hjl)] at so2
      obtain ⟨G', l', e1, e2, e3, e4, e5, e6⟩ := rvl hlen n (i + 1) (j - 1) _ _ (by omega) (by omega) (by omega) hl2 hG2
      refine ⟨G', l', fun k He => ?_, e2, e3, fun m => ?_, by simpa using e5, fun m hm => by rw [e6 m hm, List.getElem?_set_ne hm.symm, List.getElem?_set_ne hm.symm]⟩
      · rw [← e1 k ((G.set O (AObj.cells (strC (l.set i l[j]) ++ junk) t_string)).set O (AObj.cells (strC ((l.set i l[j]).set j l[i]) ++ junk) t_string))]
        have ii := ias_par (id := O) (show i < len by omega) .i64
        have ij := ias_par (id := O) (show j < len by omega) .i64
        have li := ld_junk (junk := junk) xi
        have lj := ld_junk (junk := junk) xj
        have wi := wrap_s (n := len) (show i < len by omega) (by simp only [maxL]; omega)
        have wj : IntKind.i64.wrap ((j : Int) - 1) = ((j - 1 : Nat) : Int) := by rw [wrap_i64 (by omega) (by omega)]; omega
        have r1 : ∀ H, runit (some H) = some (undefA, H) := fun _ => rfl
        generalize hA : G.set O (AObj.cells (strC (l.set i l[j]) ++ junk) t_string) = A at hG1 so1 so2
        generalize hB : A.set O (AObj.cells (strC ((l.set i l[j]).set j l[i]) ++ junk) t_string) = B at so2
        rw [go_head M l_slices_Reverse_string_string_0.eq_1]
        simp (maxSteps := 3000000) (maxDischargeDepth := 6) +contextual -implicitDefEqProofs only [amC M, ↓amD, Nat.reduceBEq, Nat.reduceAdd, env, fargs, q_slices_Reverse_string_string, amG, AV.cell, Nat.reduceMul, Nat.reduceLeDiff, hlt, ii, ij, hG, li, lj, so1, hA, hG1, so2, hB, set_junk, wi, wj, r1]
      · rw [e4 m]
        by_cases h1 : i + 1 ≤ m ∧ m ≤ j - 1
        · rw [if_pos h1, if_pos (by omega), List.getElem?_set_ne (by omega), List.getElem?_set_ne (by omega)]
          congr 1; omega
        · rw [if_neg h1]
          by_cases hmj : m = j
          · subst hmj
            rw [List.getElem?_set_self (by simpa using hjl), if_pos (by omega), show i + m - m = i by omega, xi]
          · rw [List.getElem?_set_ne (fun e => hmj e.symm)]
            by_cases hmi : m = i
            · subst hmi
              rw [List.getElem?_set_self hi, if_pos (by omega), show m + j - m = j by omega, xj]
            · rw [List.getElem?_set_ne (fun e => hmi e.symm), if_neg (by omega)]
    · refine ⟨G, l, fun k He => ?_, hG, hl, fun m => ?_, rfl, fun _ _ => rfl⟩
      · rw [go_head M l_slices_Reverse_string_string_0.eq_1]
        simp (maxSteps := 3000000) (maxDischargeDepth := 6) +contextual -implicitDefEqProofs only [amC M, ↓amD, Nat.reduceBEq, Nat.reduceAdd, env, fargs, q_slices_Reverse_string_string, hlt]
      · by_cases h1 : i ≤ m ∧ m ≤ j
        · rw [if_pos h1]; congr 1; omega
        · rw [if_neg h1]
theorem run_rev (hC : CutE E) {G : List AObj} {v : AV} {l : List Str} (h : OpV G v l) (hl : l.length ≤ 1000000) : ∃ G', M.run f_slices_Reverse_string_string [v] G = some (.ret (.tuple []), G') ∧ OpV G' v l.reverse ∧ G'.length = G.length ∧ ∀ m, (∀ O, v = .rslice O 0 l.length 1 true → m ≠ O) → G'[m]? = G[m]? := by
  rcases h with ⟨rfl, rfl⟩ | ⟨O, junk, rfl, hG⟩
  · refine ⟨G, ?_, .inl ⟨rfl, rfl⟩, rfl, fun _ _ => rfl⟩
    rw [run_c M hC.slices_Reverse_string_string rfl (c := c_slices_Reverse_string_string) rfl, c_slices_Reverse_string_string]
    have w0 : IntKind.i64.wrap (((0 : Nat) : Int) - 1) = -1 := rfl
    have hd : decide ((0 : Int) < -1) = false := rfl
    have go0 : ∀ k He, M.go a_slices_Reverse_string_string G (.c l_slices_Reverse_string_string_0 :: .lp ⟨(some [0, 2, 3]), [], false⟩ l_slices_Reverse_string_string_0 He :: .blk 0 :: .c (.lv []) :: k) (kv [(0, .slice .nil 1 []), (2, .int .i64 0), (3, .int .i64 (-1))]) G = M.go a_slices_Reverse_string_string G k .leaf G := fun k He => by
      rw [go_head M l_slices_Reverse_string_string_0.eq_1]
      simp (maxSteps := 3000000) (maxDischargeDepth := 6) +contextual -implicitDefEqProofs only [amC M, ↓amD, Nat.reduceBEq, Nat.reduceAdd, env, fargs, q_slices_Reverse_string_string, hd]
    simp only [kv_cons, kv_nil] at go0
    simp (maxSteps := 3000000) (maxDischargeDepth := 6) +contextual -implicitDefEqProofs only [amC M, ↓amD, Nat.reduceBEq, Nat.reduceAdd, env, fargs, q_slices_Reverse_string_string, w0, go0, List.length_nil]
  · by_cases h0 : l.length = 0
    · have : l = [] := List.length_eq_zero_iff.1 h0
      subst this
      refine ⟨G, ?_, .inr ⟨O, junk, rfl, hG⟩, rfl, fun _ _ => rfl⟩
      have w0 : IntKind.i64.wrap (((0 : Nat) : Int) - 1) = -1 := rfl
      have hd : decide ((0 : Int) < -1) = false := rfl
      have go0 : ∀ k He, M.go a_slices_Reverse_string_string G (.c l_slices_Reverse_string_string_0 :: .lp ⟨(some [0, 2, 3]), [], false⟩ l_slices_Reverse_string_string_0 He :: .blk 0 :: .c (.lv []) :: k) (kv [(0, .rslice O 0 0 1 true), (2, .int .i64 0), (3, .int .i64 (-1))]) G = M.go a_slices_Reverse_string_string G k .leaf G := fun k He => by
        rw [go_head M l_slices_Reverse_string_string_0.eq_1]
        simp (maxSteps := 3000000) (maxDischargeDepth := 6) +contextual -implicitDefEqProofs only [amC M, ↓amD, Nat.reduceBEq, Nat.reduceAdd, env, fargs, q_slices_Reverse_string_string, hd]
      simp only [kv_cons, kv_nil] at go0
      rw [run_c M hC.slices_Reverse_string_string rfl (c := c_slices_Reverse_string_string) rfl, c_slices_Reverse_string_string]
      simp (maxSteps := 3000000) (maxDischargeDepth := 6) +contextual -implicitDefEqProofs only [amC M, ↓amD, Nat.reduceBEq, Nat.reduceAdd, env, fargs, q_slices_Reverse_string_string, w0, go0, List.length_nil]
    · obtain ⟨G', l', e1, e2, e3, e4, e5, e6⟩ := rvl M (H0 := G) (O := O) (junk := junk) (len := l.length) hl l.length 0 (l.length - 1) G l (by omega) (by omega) (by omega) rfl hG
      have hr : l' = l.reverse := by
        refine List.ext_getElem? fun m => ?_
        rw [e4 m]
        by_cases hm : m < l.length
        · rw [if_pos (by omega), List.getElem?_reverse hm]; congr 1; omega
        · rw [if_neg (by omega), List.getElem?_eq_none (by omega), List.getElem?_eq_none (by simp; omega)]
      subst hr
      refine ⟨G', ?_, .inr ⟨O, junk, by simp, e2⟩, e5, fun m hm => e6 m (hm O rfl)⟩
      have w0 : IntKind.i64.wrap ((l.length : Int) - 1) = ((l.length - 1 : Nat) : Int) := by rw [wrap_i64 (by omega) (by omega)]; omega
      simp only [kv_cons, kv_nil, Int.ofNat_zero] at e1
      rw [run_c M hC.slices_Reverse_string_string rfl (c := c_slices_Reverse_string_string) rfl, c_slices_Reverse_string_string]
      simp (maxSteps := 3000000) (maxDischargeDepth := 6) +contextual -implicitDefEqProofs only [amC M, ↓amD, Nat.reduceBEq, Nat.reduceAdd, env, fargs, q_slices_Reverse_string_string, w0, e1]
theorem eql {G H0 : List AObj} (hc : CutOk H0 G) {v w : AV} {a b : List Str} (hv : OpV G v a) (hw : OpV G w b) (hab : a.length = b.length) (hl : a.length ≤ 1000000) (k : List Fra) : ∀ (n i : Nat) (He : List AObj), i + n = a.length →
    M.go a_slices_Equal_string_string H0 (.c l_slices_Equal_string_string_0 :: .lp ⟨(some [0, 1, 12, 13]), [], false⟩ l_slices_Equal_string_string_0 He :: .blk 0 :: .c (.lv []) :: k) (kv [(0, v), (1, w), (12, .int .i64 a.length), (13, .int .i64 i)]) G = sel (a.drop i == b.drop i) (M.go a_slices_Equal_string_string H0 k .leaf G) (some (.ret (.bool false), G.take H0.length))
  | 0, i, He, h => by
    have e : i = a.length := by omega
    subst e
    rw [List.drop_length, List.drop_of_length_le (by omega), show (([] : List Str) == []) = true from rfl, sel_true]
    rw [go_head M l_slices_Equal_string_string_0.eq_1]
    simp (maxSteps := 3000000) (maxDischargeDepth := 6) +contextual -implicitDefEqProofs only [amC M, ↓amD, Nat.reduceBEq, Nat.reduceAdd, env, fargs, q_slices_Equal_string_string, Nat.lt_irrefl]
  | n + 1, i, He, h => by
    have hi : i < a.length := by omega
    have hib : i < b.length := by omega
    obtain ⟨O, cs, o1, o2, o3⟩ := op_get hv (List.getElem?_eq_getElem hi)
    obtain ⟨O', cs', p1, p2, p3⟩ := op_get hw (List.getElem?_eq_getElem hib)
    have hwi := wrap_s (n := a.length) hi (by simp only [maxL]; omega)
    have ih := fun He => eql hc hv hw hab hl k n (i + 1) He (by omega)
    simp only [kv_cons, kv_nil] at ih
    rw [List.drop_eq_getElem_cons hi, List.drop_eq_getElem_cons hib, List.cons_beq_cons]
    cases he : a[i] == b[i] with
    | true =>
      rw [Bool.true_and]
      rw [go_head M l_slices_Equal_string_string_0.eq_1]
      simp (maxSteps := 3000000) (maxDischargeDepth := 6) +contextual -implicitDefEqProofs only [amC M, ↓amD, Nat.reduceBEq, Nat.reduceAdd, env, fargs, q_slices_Equal_string_string, hi, o1, o2, o3, p1, p2, p3, he, hwi, ih]
    | false =>
      rw [Bool.false_and, sel_false]
      rw [go_head M l_slices_Equal_string_string_0.eq_1]
      simp (maxSteps := 3000000) (maxDischargeDepth := 6) +contextual -implicitDefEqProofs only [amC M, ↓amD, Nat.reduceBEq, Nat.reduceAdd, env, fargs, q_slices_Equal_string_string, hi, o1, o2, o3, p1, p2, p3, he, hc]
theorem run_equal (hC : CutE E) {G : List AObj} {v w : AV} {a b : List Str} (hv : OpV G v a) (hw : OpV G w b) (hl : a.length ≤ 1000000) : M.run f_slices_Equal_string_string [v, w] G = some (.ret (.bool (a == b)), G) := by
  have l1 := fun H => len_op (G := H) hv
  have l2 := fun H => len_op (G := H) hw
  rw [run_c M hC.slices_Equal_string_string rfl (c := c_slices_Equal_string_string) rfl, c_slices_Equal_string_string]
  by_cases hab : a.length = b.length
  · have hq : (a.length == b.length) = true := by simp [hab]
    have h1 := fun k He => eql M (cut_refl G) hv hw hab hl k a.length 0 He (by omega)
    simp only [kv_cons, kv_nil, Int.ofNat_zero, List.drop_zero] at h1
    cases he : a == b with
    | true =>
      simp only [he, sel_true] at h1
      simp (maxSteps := 3000000) (maxDischargeDepth := 6) +contextual -implicitDefEqProofs only [amC M, ↓amD, Nat.reduceBEq, Nat.reduceAdd, env, fargs, q_slices_Equal_string_string, l1, l2, hq, h1]
    | false =>
      simp only [he, sel_false] at h1
      simp (maxSteps := 3000000) (maxDischargeDepth := 6) +contextual -implicitDefEqProofs only [amC M, ↓amD, Nat.reduceBEq, Nat.reduceAdd, env, fargs, q_slices_Equal_string_string, l1, l2, hq, h1, hp_self]
  · have hq : (a.length == b.length) = false := by simp [hab]
    have he : (a == b) = false := by simp only [beq_eq_false_iff_ne]; intro e; exact hab (by rw [e])
    rw [he]
    simp (maxSteps := 3000000) (maxDischargeDepth := 6) +contextual -implicitDefEqProofs only [amC M, ↓amD, Nat.reduceBEq, Nat.reduceAdd, env, fargs, q_slices_Equal_string_string, l1, l2, hq, hp_self, cut_refl]
end Go.Am
end

section
set_option linter.unusedSimpArgs false
set_option linter.unusedVariables false
set_option maxRecDepth 100000
set_option maxHeartbeats 4000000
namespace Go.Am
open Go.RowKit
attribute [local congr] dsel_congr sel_c1 slc_cong gsel_congr go_congr aft_congr aftD_congr condR_congr backR_congr inR_congr at2_congr
variable {E : REnv} (M : Mach cdec E)

/-! docs.Glue -/
def chkPs : List (Sl Piece) → Int
  | [] => 0
  | p :: ps => sel (checkP p.l == 0) (chkPs ps) (checkP p.l)
def adjB : List (Sl Piece) → Bool
  | [] => true
  | p :: ps => (match ps with
    | [] => true
    | q :: _ => carO 3 p.l == (carO 2 q.l).reverse) && adjB ps
theorem adjB_two (p q : Sl Piece) (ps : List (Sl Piece)) : adjB (p :: q :: ps) = ((carO 3 p.l == (carO 2 q.l).reverse) && adjB (q :: ps)) := rfl
def skipB (n i : Nat) (x : Piece) : Bool := x.car && (((x.kind == 2) && decide (0 < i)) || ((x.kind == 3) && decide (i + 1 < n)))
def glue1 (n i : Nat) (cur l : List Piece) : List Piece := l.foldl (fun c x => sel (skipB n i x) c (putF c x)) cur
def glueL (n : Nat) : Nat → List Piece → List (Sl Piece) → List Piece
  | _, cur, [] => cur
  | i, cur, p :: ps => glueL n (i + 1) (glue1 n i cur p.l) ps
def gS (cur : List Piece) : CSt := ⟨[], cur, [], 0, false, []⟩
def szQ (l : List Piece) : Nat := (l.map fun x => x.text.length + 1).sum
theorem szQ_cons (x : Piece) (l : List Piece) : szQ (x :: l) = x.text.length + 1 + szQ l := by simp [szQ]
def szL (ps : List (Sl Piece)) : Nat := (ps.map fun p => szQ p.l).sum
theorem szL_cons (p : Sl Piece) (l : List (Sl Piece)) : szL (p :: l) = szQ p.l + szL l := by simp [szL]
theorem cut_low {H0 G : List AObj} (h1 : H0.length ≤ G.length) (h2 : ∀ m, m < H0.length → G[m]? = H0[m]?) : CutOk H0 G ∧ G.take H0.length = H0 := by
  have hk : G.take H0.length = H0 := by
    refine List.ext_getElem? fun i => ?_
    by_cases hi : i < H0.length
    · rw [List.getElem?_take_of_lt hi, h2 i hi]
    · rw [List.getElem?_eq_none (by simp; omega), List.getElem?_eq_none (by omega)]
  exact ⟨⟨h1, fun i x hi hx => .inl (by rw [← h2 i hi]; exact hx)⟩, hk⟩
def CurB (m : Nat) (cur : List Piece) : Prop := cur.length ≤ m ∧ ∀ x ∈ cur, x.text.length ≤ m
theorem CurB.put {m : Nat} {cur : List Piece} (h : CurB m cur) (p : Piece) : CurB (m + (p.text.length + 1)) (putF cur p) :=
  ⟨by have := putF_len cur p; have := h.1; omega, fun x hx => by have := putF_txt h.2 (Nat.le_refl p.text.length) x hx; omega⟩
theorem CurB.mono {m n : Nat} {cur : List Piece} (h : CurB m cur) (hn : m ≤ n) : CurB n cur := ⟨Nat.le_trans h.1 hn, fun x hx => Nat.le_trans (h.2 x hx) hn⟩
theorem CurB.glue1 {n i : Nat} : ∀ (l : List Piece) {m : Nat} {cur : List Piece}, CurB m cur → CurB (m + szQ l) (glue1 n i cur l)
  | [], m, cur, h => h
  | x :: l, m, cur, h => by
    rw [szQ_cons, ← Nat.add_assoc]
    show CurB _ (Go.Am.glue1 n i (sel (skipB n i x) cur (putF cur x)) l)
    refine CurB.glue1 l ?_
    cases skipB n i x
    · exact h.put x
    · exact h.mono (by omega)
theorem gl0 (hB : BasE E) (hX : ExtD M) {H H0 : List AObj} (hc : CutOk H0 H) {ps : List (Sl Piece)} {tg : Tag} (hn : ps.length ≤ 1000) (hps : ∀ p ∈ ps, p.l.length ≤ 1000000 ∧ TxtOk p.l) (k : List Fra) : ∀ (n i : Nat) (He : List AObj), i + n = ps.length →
    M.go a_docs_Glue H0 (.c l_docs_Glue_0 :: .lp ⟨(some [0, 20, 21, 22]), [], false⟩ l_docs_Glue_0 He :: .blk 0 :: .c (.lv [0]) :: k) (kv [(0, .slice tg 1 (ps.map plRow)), (20, .slice tg 1 (ps.map plRow)), (21, .int .i64 ps.length), (22, .int .i64 i)]) H =
      sel (chkPs (ps.drop i) == 0) (M.go a_docs_Glue H0 k (kv [(0, .slice tg 1 (ps.map plRow))]) H) (some (.ret (.tuple [.slice .nil 3 [], .int .u8 (chkPs (ps.drop i))]), H.take H0.length))
  | 0, i, He, h => by
    have e : i = ps.length := by omega
    subst e
    rw [List.drop_length, chkPs, show ((0 : Int) == 0) = true from rfl, sel_true]
    rw [go_head M l_docs_Glue_0.eq_1]
    simp (maxSteps := 3000000) (maxDischargeDepth := 6) +contextual -implicitDefEqProofs only [amC M, ↓amD, Nat.reduceBEq, Nat.reduceAdd, env, fargs, q_docs_Glue, Nat.lt_irrefl]
  | n + 1, i, He, h => by
    have hi : i < ps.length := by omega
    have hx : ps[i]? = some ps[i] := List.getElem?_eq_getElem hi
    have hd : (ps.drop i) = ps[i] :: ps.drop (i + 1) := List.drop_eq_getElem_cons hi
    have hwi := wrap_s (n := ps.length) hi (by simp only [maxL]; omega)
    have hir := ias_row (row := plRow) (tag := tg) (sz := 1) (k := .i64) hi
    obtain ⟨p1, p2⟩ := hps _ (List.getElem_mem hi)
    have hck := fun H => run_CheckPieces M hB hX (l := ps[i]) p1 p2 H
    have ih := fun He => gl0 hB hX hc (tg := tg) hn hps k n (i + 1) He (by omega)
    simp only [kv_cons, kv_nil] at ih
    have hde := fun e => deepE hc 3 e
    rw [hd, chkPs]
    cases c0 : checkP ps[i].l == 0 with
    | true =>
      rw [sel_true]
      rw [go_head M l_docs_Glue_0.eq_1]
      simp (maxSteps := 3000000) (maxDischargeDepth := 6) +contextual -implicitDefEqProofs only [amC M, ↓amD, Nat.reduceBEq, Nat.reduceAdd, env, fargs, q_docs_Glue, hi, hx, hir, hwi, qPl, hck, c0, ih, Bool.not_true]
    | false =>
      rw [sel_false, c0, sel_false]
      rw [go_head M l_docs_Glue_0.eq_1]
      simp (maxSteps := 3000000) (maxDischargeDepth := 6) +contextual -implicitDefEqProofs only [amC M, ↓amD, Nat.reduceBEq, Nat.reduceAdd, env, fargs, q_docs_Glue, hi, hx, hir, hwi, qPl, hck, c0, hde, Bool.not_false]
theorem gl1 (hC : CutE E) {H0 : List AObj} {ps : List (Sl Piece)} {tg : Tag} (hn : ps.length ≤ 1000) (hps : ∀ p ∈ ps, p.l.length ≤ 1000000) : ∀ (n j : Nat) (G : List AObj), j + 1 + n = ps.length → H0.length ≤ G.length → (∀ m, m < H0.length → G[m]? = H0[m]?) →
    ∃ G', (∀ (k : List Fra) (He : List AObj), M.go a_docs_Glue H0 (.c l_docs_Glue_1 :: .lp ⟨(some [0, 7]), [], false⟩ l_docs_Glue_1 He :: .blk 2 :: .c (.lv [0]) :: k) (kv [(0, .slice tg 1 (ps.map plRow)), (7, .int .i64 ((j + 1 : Nat) : Int))]) G =
      sel (adjB (ps.drop j)) (M.go a_docs_Glue H0 k (kv [(0, .slice tg 1 (ps.map plRow))]) G') (some (.ret (.tuple [.slice .nil 3 [], .int .u8 10]), H0))) ∧ H0.length ≤ G'.length ∧ ∀ m, m < H0.length → G'[m]? = H0[m]?
  | 0, j, G, h, hl, hG => by
    have e : ps.length = j + 1 := by omega
    refine ⟨G, fun k He => ?_, hl, hG⟩
    have hj : j < ps.length := by omega
    have ha : adjB (ps.drop j) = true := by
      rw [List.drop_eq_getElem_cons hj, List.drop_of_length_le (by omega)]; rfl
    rw [ha, sel_true]
    have hlt : ¬ (j + 1 < ps.length) := by omega
    rw [go_head M l_docs_Glue_1.eq_1]
    simp (maxSteps := 3000000) (maxDischargeDepth := 6) +contextual -implicitDefEqProofs only [amC M, ↓amD, Nat.reduceBEq, Nat.reduceAdd, env, fargs, q_docs_Glue, hlt, List.length_map]
  | n + 1, j, G, h, hl, hG => by
    have hj : j < ps.length := by omega
    have hi : j + 1 < ps.length := by omega
    have hxj : ps[j]? = some ps[j] := List.getElem?_eq_getElem hj
    have hxi : ps[j + 1]? = some ps[j + 1] := List.getElem?_eq_getElem hi
    have hrj := ias_row (row := plRow) (tag := tg) (sz := 1) (k := .i64) hj
    have hri := ias_row (row := plRow) (tag := tg) (sz := 1) (k := .i64) hi
    have hwj : IntKind.i64.wrap (((j + 1 : Nat) : Int) - 1) = (j : Int) := by rw [wrap_i64 (by omega) (by omega)]; omega
    have hwi := wrap_s (n := ps.length) hi (by simp only [maxL]; omega)
    have bj := hps _ (List.getElem_mem hj)
    have bi := hps _ (List.getElem_mem hi)
    obtain ⟨G1, v1, w1, e1, o1, o2, o3, o4, o5, o6⟩ := run_ends M hC (l := ps[j].l) (tg := ps[j].tag) bj G
    obtain ⟨G2, v2, w2, f1, q1, q2, q3, q4, q5, q6⟩ := run_ends M hC (l := ps[j + 1].l) (tg := ps[j + 1].tag) bi G1
    have cl : ∀ (k : Int) (l : List Piece), (carO k l).length ≤ l.length := fun k l => by unfold carO; rw [List.length_map]; exact List.length_filter_le _ _
    have c3 := cl 3 ps[j].l
    have c2 := cl 2 ps[j + 1].l
    obtain ⟨G3, r1, r2, r3, r4⟩ := run_rev M hC q1 (by omega)
    have ow2 : OpV G2 w1 (carO 3 ps[j].l) := o2.stay fun O cs hO => by rw [q6 O (lt_get hO)]; exact hO
    have lw : ∀ O len, w1 = .rslice O 0 len 1 true → O < G1.length := fun O len e => by
      rcases o2 with ⟨_, hv⟩ | ⟨O', junk, hv, hO⟩
      · rw [hv] at e; cases e
      · rw [hv] at e; cases e; exact lt_get hO
    have ow3 : OpV G3 w1 (carO 3 ps[j].l) := ow2.own fun O y e hO => by
      rw [r4 O fun O' e' ei => q4 O' _ _ _ _ e' (by rw [← ei]; exact lw O _ e)]; exact hO
    have eq := run_equal M hC ow3 r2 (by omega)
    have low3 : ∀ m, m < H0.length → G3[m]? = H0[m]? := fun m hm => by
      rw [r4 m fun O' e' ei => q4 O' _ _ _ _ e' (by omega), q6 m (by omega), o6 m (by omega), hG m hm]
    have hle3 : H0.length ≤ G3.length := by omega
    obtain ⟨hc3, ht3⟩ := cut_low hle3 low3
    have hde := deepE hc3 3 10
    rw [ht3] at hde
    have hd : ps.drop j = ps[j] :: ps[j + 1] :: ps.drop (j + 1 + 1) := by rw [List.drop_eq_getElem_cons hj, List.drop_eq_getElem_cons hi]
    have ha : adjB (ps.drop j) = ((carO 3 ps[j].l == (carO 2 ps[j + 1].l).reverse) && adjB (ps.drop (j + 1))) := by
      rw [hd, adjB_two, List.drop_eq_getElem_cons hi]
    rw [ha]
    cases c0 : carO 3 ps[j].l == (carO 2 ps[j + 1].l).reverse with
    | false =>
      refine ⟨G3, fun k He => ?_, hle3, low3⟩
      rw [Bool.false_and, sel_false]
      rw [go_head M l_docs_Glue_1.eq_1]
      simp (maxSteps := 3000000) (maxDischargeDepth := 6) +contextual -implicitDefEqProofs only [amC M, ↓amD, Nat.reduceBEq, Nat.reduceAdd, env, fargs, q_docs_Glue, hi, hj, hxj, hxi, hrj, hri, hwj, hwi, qPl, List.length_map, e1, f1, r1, eq, c0, aextract, List.getElem?_cons_zero, List.getElem?_cons_succ, hde, Bool.not_false]
    | true =>
      obtain ⟨G4, i1, i2, i3⟩ := gl1 hC (tg := tg) hn hps n (j + 1) G3 (by omega) hle3 low3
      refine ⟨G4, fun k He => ?_, i2, i3⟩
      simp only [kv_cons, kv_nil] at i1
      rw [Bool.true_and]
      rw [go_head M l_docs_Glue_1.eq_1]
      simp (maxSteps := 3000000) (maxDischargeDepth := 6) +contextual -implicitDefEqProofs only [amC M, ↓amD, Nat.reduceBEq, Nat.reduceAdd, env, fargs, q_docs_Glue, hi, hj, hxj, hxi, hrj, hri, hwj, hwi, qPl, List.length_map, e1, f1, r1, eq, c0, aextract, List.getElem?_cons_zero, List.getElem?_cons_succ, i1, Bool.not_true]
end Go.Am
end

section
set_option linter.unusedSimpArgs false
set_option linter.unusedVariables false
set_option maxRecDepth 100000
set_option maxHeartbeats 4000000
namespace Go.Am
open Go.RowKit
attribute [local congr] dsel_congr sel_c1 slc_cong gsel_congr go_congr aft_congr aftD_congr condR_congr backR_congr inR_congr at2_congr
variable {E : REnv} (M : Mach cdec E)

/-! docs.Glue: the pieces are put together -/
theorem skip_of {n i : Nat} (x : Piece) : (decide ((0 : Int) < (i : Int)) = decide (0 < i)) := by
  rw [Bool.eq_iff_iff]; simp
theorem gl2 (hC : CutE E) {H0 : List AObj} {R : Nat → Prop} {c : Nat} {pv : AV} {ps : List (Sl Piece)} {tgp : Tag} (hpv : pv = .slice tgp 1 (ps.map plRow)) (hnp : ps.length ≤ 1000) {i : Nat} (hi0 : i < ps.length) {l : List Piece} {tg : Tag} (hl : l.length ≤ 1000000) : ∀ (n j m : Nat) (H : List AObj) (cur : List Piece), j + n = l.length → CutV R c H (gS cur) → CurB m cur → m + szQ (l.drop j) ≤ 1000000 →
    ∃ H', (∀ (k : List Fra) (He : List AObj), M.go a_docs_Glue H0 (.c l_docs_Glue_2 :: .lp ⟨(some [0, 12, 13, 64, 65, 66, 71, 72, 73]), [], false⟩ l_docs_Glue_2 He :: .blk 6 :: .c (.lv [0, 12, 64, 65, 66]) :: k) (kv [(0, pv), (12, .ptr c 0), (13, .int .i64 i), (64, pv), (65, .int .i64 ps.length), (66, .int .i64 i), (71, .slice tg 3 (l.map Piece.row)), (72, .int .i64 l.length), (73, .int .i64 j)]) H =
      M.go a_docs_Glue H0 k (kv [(0, pv), (12, .ptr c 0), (64, pv), (65, .int .i64 ps.length), (66, .int .i64 i)]) H') ∧ CutV R c H' (gS (glue1 ps.length i cur (l.drop j))) ∧ Frm R H H'
  | 0, j, m, H, cur, h, hS, hb, hm => by
    have e : j = l.length := by omega
    subst e
    refine ⟨H, fun k He => ?_, by rw [List.drop_length]; exact hS, Frm.refl R H⟩
    rw [go_head M l_docs_Glue_2.eq_1]
    simp (maxSteps := 3000000) (maxDischargeDepth := 6) +contextual -implicitDefEqProofs only [amC M, ↓amD, Nat.reduceBEq, Nat.reduceAdd, env, fargs, q_docs_Glue, Nat.lt_irrefl]
  | n + 1, j, m, H, cur, h, hS, hb, hm => by
    have hj : j < l.length := by omega
    have hx : l[j]? = some l[j] := List.getElem?_eq_getElem hj
    have hd : (l.drop j) = l[j] :: l.drop (j + 1) := List.drop_eq_getElem_cons hj
    have hwj := wrap_s (n := l.length) hj (by simp only [maxL]; omega)
    have hwi := wrap_s (n := ps.length) hi0 (by simp only [maxL]; omega)
    have hir := ias_row (row := Piece.row) (tag := tg) (sz := 3) (k := .i64) hj
    have hlp : ∀ G, rlen G .sl pv = some (.int .i64 ((ps.length : Nat) : Int)) := fun G => by rw [hpv]; simp only [rlen, List.length_map]
    rw [hd] at hm ⊢
    rw [szQ_cons] at hm
    have gx := hp_get0 H [AObj.cells l[j].row t_api_Piece]
    rw [List.getElem?_cons_zero] at gx
    have h1 := hS.app [AObj.cells l[j].row t_api_Piece]
    obtain ⟨_, l2⟩ := hS.le
    have f1 := Frm.app H [AObj.cells l[j].row t_api_Piece] l2
    have hgi := skip_of (n := 0) (i := i) l[j]
    show ∃ H', _ ∧ CutV R c H' (gS (glue1 ps.length i (sel (skipB ps.length i l[j]) cur (putF cur l[j])) (l.drop (j + 1)))) ∧ _
    have skip : skipB ps.length i l[j] = true → ∀ (k : List Fra) (He : List AObj), M.go a_docs_Glue H0 (.c l_docs_Glue_2 :: .lp ⟨(some [0, 12, 13, 64, 65, 66, 71, 72, 73]), [], false⟩ l_docs_Glue_2 He :: .blk 6 :: .c (.lv [0, 12, 64, 65, 66]) :: k) (kv [(0, pv), (12, .ptr c 0), (13, .int .i64 i), (64, pv), (65, .int .i64 ps.length), (66, .int .i64 i), (71, .slice tg 3 (l.map Piece.row)), (72, .int .i64 l.length), (73, .int .i64 j)]) H =
        M.go a_docs_Glue H0 (.c l_docs_Glue_2 :: .lp ⟨(some [0, 12, 13, 64, 65, 66, 71, 72, 73]), [], false⟩ l_docs_Glue_2 (H ++ [AObj.cells l[j].row t_api_Piece]) :: .blk 6 :: .c (.lv [0, 12, 64, 65, 66]) :: k) (kv [(0, pv), (12, .ptr c 0), (13, .int .i64 i), (64, pv), (65, .int .i64 ps.length), (66, .int .i64 i), (71, .slice tg 3 (l.map Piece.row)), (72, .int .i64 l.length), (73, .int .i64 ((j + 1 : Nat) : Int))]) (H ++ [AObj.cells l[j].row t_api_Piece]) := fun hs k He => by
      unfold skipB at hs
      rw [Bool.and_eq_true] at hs
      obtain ⟨hs1, hs2⟩ := hs
      cases k2 : l[j].kind == 2 with
      | true =>
        have k3 : (l[j].kind == 3) = false := by rw [eq_of_beq k2]; rfl
        rw [k2, k3, Bool.true_and, Bool.false_and, Bool.or_false] at hs2
        rw [hs2] at hgi
        rw [go_head M l_docs_Glue_2.eq_1]
        simp (maxSteps := 3000000) (maxDischargeDepth := 6) +contextual -implicitDefEqProofs only [amC M, ↓amD, Nat.reduceBEq, Nat.reduceAdd, env, fargs, q_docs_Glue, amG, AV.cell, Nat.reduceMul, Nat.reduceLeDiff, hj, hx, hir, hwj, hwi, hlp, qPiece, gx, hs1, k2, k3, hgi]
      | false =>
        cases k3 : l[j].kind == 3 with
        | false => rw [k2, k3] at hs2; cases hs2
        | true =>
          rw [k2, k3, Bool.true_and, Bool.false_and, Bool.false_or] at hs2
          have hlt : i + 1 < ps.length := of_decide_eq_true hs2
          rw [go_head M l_docs_Glue_2.eq_1]
          simp (maxSteps := 3000000) (maxDischargeDepth := 6) +contextual -implicitDefEqProofs only [amC M, ↓amD, Nat.reduceBEq, Nat.reduceAdd, env, fargs, q_docs_Glue, amG, AV.cell, Nat.reduceMul, Nat.reduceLeDiff, hj, hx, hir, hwj, hwi, hlp, qPiece, gx, hs1, k2, k3, hlt]
    cases hsk : skipB ps.length i l[j] with
    | true =>
      rw [sel_true]
      have sk := skip hsk
      obtain ⟨H2, i1, i2, i3⟩ := gl2 hC (H0 := H0) hpv hnp hi0 (tg := tg) hl n (j + 1) (m + (l[j].text.length + 1)) _ cur (by omega) h1 (hb.mono (by omega)) (by omega)
      exact ⟨H2, fun k He => by rw [sk k He, i1 k _], i2, f1.trans i3⟩
    | false =>
      rw [sel_false]
      have hb2 := hb.put l[j]
      obtain ⟨H1, p1, p2, p3, _⟩ := run_put M hC h1 (show (gS cur).done.length ≤ 1000000 from Nat.zero_le _) (show (gS cur).cur.length ≤ 1000000 from by have := hb.1; show cur.length ≤ _; omega) (fun x hx => by have := hb.2 x hx; omega) (p := l[j]) (by omega)
      have p2' : CutV R c H1 (gS (putF cur l[j])) := p2
      have step : ∀ (k : List Fra) (He : List AObj), M.go a_docs_Glue H0 (.c l_docs_Glue_2 :: .lp ⟨(some [0, 12, 13, 64, 65, 66, 71, 72, 73]), [], false⟩ l_docs_Glue_2 He :: .blk 6 :: .c (.lv [0, 12, 64, 65, 66]) :: k) (kv [(0, pv), (12, .ptr c 0), (13, .int .i64 i), (64, pv), (65, .int .i64 ps.length), (66, .int .i64 i), (71, .slice tg 3 (l.map Piece.row)), (72, .int .i64 l.length), (73, .int .i64 j)]) H =
        M.go a_docs_Glue H0 (.c l_docs_Glue_2 :: .lp ⟨(some [0, 12, 13, 64, 65, 66, 71, 72, 73]), [], false⟩ l_docs_Glue_2 H1 :: .blk 6 :: .c (.lv [0, 12, 64, 65, 66]) :: k) (kv [(0, pv), (12, .ptr c 0), (13, .int .i64 i), (64, pv), (65, .int .i64 ps.length), (66, .int .i64 i), (71, .slice tg 3 (l.map Piece.row)), (72, .int .i64 l.length), (73, .int .i64 ((j + 1 : Nat) : Int))]) H1 := fun k He => by
        unfold skipB at hsk
        cases kc : l[j].car with
        | false =>
          rw [go_head M l_docs_Glue_2.eq_1]
          simp (maxSteps := 3000000) (maxDischargeDepth := 6) +contextual -implicitDefEqProofs only [amC M, ↓amD, Nat.reduceBEq, Nat.reduceAdd, env, fargs, q_docs_Glue, amG, AV.cell, Nat.reduceMul, Nat.reduceLeDiff, hj, hx, hir, hwj, hwi, hlp, qPiece, gx, kc, p1]
        | true =>
          rw [kc, Bool.true_and] at hsk
          cases k2 : l[j].kind == 2 with
          | true =>
            have k3 : (l[j].kind == 3) = false := by rw [eq_of_beq k2]; rfl
            rw [k2, k3, Bool.true_and, Bool.false_and, Bool.or_false] at hsk
            rw [hsk] at hgi
            rw [go_head M l_docs_Glue_2.eq_1]
            simp (maxSteps := 3000000) (maxDischargeDepth := 6) +contextual -implicitDefEqProofs only [amC M, ↓amD, Nat.reduceBEq, Nat.reduceAdd, env, fargs, q_docs_Glue, amG, AV.cell, Nat.reduceMul, Nat.reduceLeDiff, hj, hx, hir, hwj, hwi, hlp, qPiece, gx, kc, k2, k3, hgi, p1]
          | false =>
            rw [k2, Bool.false_and, Bool.false_or] at hsk
            cases k3 : l[j].kind == 3 with
            | false =>
              rw [go_head M l_docs_Glue_2.eq_1]
              simp (maxSteps := 3000000) (maxDischargeDepth := 6) +contextual -implicitDefEqProofs only [amC M, ↓amD, Nat.reduceBEq, Nat.reduceAdd, env, fargs, q_docs_Glue, amG, AV.cell, Nat.reduceMul, Nat.reduceLeDiff, hj, hx, hir, hwj, hwi, hlp, qPiece, gx, kc, k2, k3, p1]
            | true =>
              rw [k3, Bool.true_and] at hsk
              have hlt : ¬ (i + 1 < ps.length) := of_decide_eq_false hsk
              rw [go_head M l_docs_Glue_2.eq_1]
              simp (maxSteps := 3000000) (maxDischargeDepth := 6) +contextual -implicitDefEqProofs only [amC M, ↓amD, Nat.reduceBEq, Nat.reduceAdd, env, fargs, q_docs_Glue, amG, AV.cell, Nat.reduceMul, Nat.reduceLeDiff, hj, hx, hir, hwj, hwi, hlp, qPiece, gx, kc, k2, k3, hlt, p1]
      obtain ⟨H2, i1, i2, i3⟩ := gl2 hC (H0 := H0) hpv hnp hi0 (tg := tg) hl n (j + 1) (m + (l[j].text.length + 1)) _ _ (by omega) p2' hb2 (by omega)
      exact ⟨H2, fun k He => by rw [step k He, i1 k _], i2, (f1.trans p3).trans i3⟩
theorem gl3 (hC : CutE E) {H0 : List AObj} {R : Nat → Prop} {c : Nat} {ps : List (Sl Piece)} {tgp : Tag} (hnp : ps.length ≤ 1000) (hps : ∀ p ∈ ps, p.l.length ≤ 1000000) : ∀ (n i m : Nat) (H : List AObj) (cur : List Piece), i + n = ps.length → CutV R c H (gS cur) → CurB m cur → m + szL (ps.drop i) ≤ 1000000 →
    ∃ H', (∀ (k : List Fra) (He : List AObj), M.go a_docs_Glue H0 (.c l_docs_Glue_3 :: .lp ⟨(some [0, 12, 64, 65, 66]), [], false⟩ l_docs_Glue_3 He :: .blk 4 :: .c (.lv [12]) :: k) (kv [(0, .slice tgp 1 (ps.map plRow)), (12, .ptr c 0), (64, .slice tgp 1 (ps.map plRow)), (65, .int .i64 ps.length), (66, .int .i64 i)]) H = M.go a_docs_Glue H0 k (kv [(12, .ptr c 0)]) H') ∧ CutV R c H' (gS (glueL ps.length i cur (ps.drop i))) ∧ Frm R H H'
  | 0, i, m, H, cur, h, hS, hb, hm => by
    have e : i = ps.length := by omega
    subst e
    refine ⟨H, fun k He => ?_, by rw [List.drop_length]; exact hS, Frm.refl R H⟩
    rw [go_head M l_docs_Glue_3.eq_1]
    simp (maxSteps := 3000000) (maxDischargeDepth := 6) +contextual -implicitDefEqProofs only [amC M, ↓amD, Nat.reduceBEq, Nat.reduceAdd, env, fargs, q_docs_Glue, Nat.lt_irrefl]
  | n + 1, i, m, H, cur, h, hS, hb, hm => by
    have hi : i < ps.length := by omega
    have hx : ps[i]? = some ps[i] := List.getElem?_eq_getElem hi
    have hd : (ps.drop i) = ps[i] :: ps.drop (i + 1) := List.drop_eq_getElem_cons hi
    have hwi := wrap_s (n := ps.length) hi (by simp only [maxL]; omega)
    have hir := ias_row (row := plRow) (tag := tgp) (sz := 1) (k := .i64) hi
    have bi := hps _ (List.getElem_mem hi)
    rw [hd] at hm ⊢
    rw [szL_cons] at hm
    obtain ⟨H1, a1, a2, a3⟩ := gl2 M hC (H0 := H0) (pv := .slice tgp 1 (ps.map plRow)) rfl hnp hi (l := ps[i].l) (tg := ps[i].tag) bi ps[i].l.length 0 m H cur (by omega) hS hb (by rw [List.drop_zero]; omega)
    rw [List.drop_zero] at a2
    have hb2 := CurB.glue1 (n := ps.length) (i := i) ps[i].l hb
    obtain ⟨H2, i1, i2, i3⟩ := gl3 hC (H0 := H0) (tgp := tgp) hnp hps n (i + 1) (m + szQ ps[i].l) H1 _ (by omega) a2 hb2 (by omega)
    refine ⟨H2, fun k He => ?_, i2, a3.trans i3⟩
    simp only [kv_cons, kv_nil, Int.ofNat_zero] at a1 i1
    rw [go_head M l_docs_Glue_3.eq_1]
    simp (maxSteps := 3000000) (maxDischargeDepth := 6) +contextual -implicitDefEqProofs only [amC M, ↓amD, Nat.reduceBEq, Nat.reduceAdd, env, fargs, q_docs_Glue, hi, hx, hir, hwi, qPl, a1, i1, List.length_map]
def gluV (ps : List (Sl Piece)) : AV :=
  sel (decide (ps.length = 0)) (.tuple [.slice .nil 3 [], .int .u8 1]) (sel (chkPs ps == 0) (sel (adjB ps) (sel (bigP (glueL ps.length 0 [] ps)) (.tuple [.slice .nil 3 [], .int .u8 3]) (.tuple [.slice (ptag (glueL ps.length 0 [] ps)) 3 ((glueL ps.length 0 [] ps).map Piece.row), .int .u8 0])) (.tuple [.slice .nil 3 [], .int .u8 10])) (.tuple [.slice .nil 3 [], .int .u8 (chkPs ps)]))
theorem run_dGlue (hB : BasE E) (hX : ExtD M) (hC : CutE E) {ps : List (Sl Piece)} {tg : Tag} (hn : ps.length ≤ 1000) (hps : ∀ p ∈ ps, p.l.length ≤ 1000000 ∧ TxtOk p.l) (hsz : szL ps ≤ 1000000) (H : List AObj) :
    M.run f_docs_Glue [.slice tg 1 (ps.map plRow)] H = some (.ret (gluV ps), H) := by
  have deS := fun e => deepE (cut_refl H) 3 e
  simp only [hp_self] at deS
  rw [run_c M hC.docs_Glue rfl (c := c_docs_Glue) rfl, c_docs_Glue]
  by_cases h0 : ps.length = 0
  · have d0 : decide (ps.length = 0) = true := decide_eq_true h0
    have q0 : (((ps.length : Nat) : Int) == 0) = true := by rw [h0]; rfl
    simp (maxSteps := 3000000) (maxDischargeDepth := 6) +contextual -implicitDefEqProofs only [amC M, ↓amD, Nat.reduceBEq, Nat.reduceAdd, env, fargs, q_docs_Glue, List.length_map, q0, deS, gluV, d0]
  · have d0 : decide (ps.length = 0) = false := decide_eq_false h0
    have q0 : (((ps.length : Nat) : Int) == 0) = false := beq_eq_false_iff_ne.2 (by omega)
    have g0 := fun k He => gl0 M hB hX (cut_refl H) (tg := tg) hn hps k ps.length 0 He (by omega)
    simp only [kv_cons, kv_nil, Int.ofNat_zero, List.drop_zero, hp_self] at g0
    cases c0 : chkPs ps == 0 with
    | false =>
      simp only [c0, sel_false] at g0
      simp (maxSteps := 3000000) (maxDischargeDepth := 6) +contextual -implicitDefEqProofs only [amC M, ↓amD, Nat.reduceBEq, Nat.reduceAdd, env, fargs, q_docs_Glue, List.length_map, q0, g0, gluV, d0, c0]
    | true =>
      simp only [c0, sel_true] at g0
      obtain ⟨G1, g1, l1, w1⟩ := gl1 M hC (H0 := H) (tg := tg) hn (fun p hp => (hps p hp).1) (ps.length - 1) 0 H (by omega) (Nat.le_refl _) (fun _ _ => rfl)
      simp only [kv_cons, kv_nil, (show (((0 + 1 : Nat)) : Int) = 1 from rfl), List.drop_zero] at g1
      cases c1 : adjB ps with
      | false =>
        simp only [c1, sel_false] at g1
        simp (maxSteps := 3000000) (maxDischargeDepth := 6) +contextual -implicitDefEqProofs only [amC M, ↓amD, Nat.reduceBEq, Nat.reduceAdd, env, fargs, q_docs_Glue, List.length_map, q0, g0, g1, gluV, d0, c0, c1]
      | true =>
        simp only [c1, sel_true] at g1
        obtain ⟨G, hG⟩ : ∃ G, G = G1 ++ [AObj.cells [.slice .nil 3 []] t_sl_api_Piece, AObj.cells [.rslice G1.length 0 1 1 true, .slice .nil 1 [], .int .i64 0, .bool false, .slice .nil 1 []] t_docs_cutter] := ⟨_, rfl⟩
        have w0 : CutV (fun i => i < H.length) (G1.length + 1) G (gS []) := by
          refine ⟨G1.length, G1.length + 2, [], .slice .nil 3 [], .nil, .slice .nil 1 [], ⟨by omega, by omega, fun i hi => by rw [hG]; simp; omega, by rw [hG, hp_getk]; rfl, by rw [hG, hp_get0]; rfl, rfl, fun i w l h => by simp at h, .inl ⟨rfl, rfl⟩, fun Q o n e r eq => (by cases eq), fun Q o n e r eq => (by cases eq), by rw [hG]; simp, .inl ⟨rfl, rfl⟩, fun Q o n e r eq => (by cases eq), .inr (.inr rfl)⟩⟩
        obtain ⟨G3, s1, s2, s3⟩ := gl3 M hC (H0 := H) (tgp := tg) hn (fun p hp => (hps p hp).1) ps.length 0 0 G [] (by omega) w0 ⟨Nat.le_refl _, fun x hx => (by cases hx)⟩ (by rw [List.drop_zero]; omega)
        rw [List.drop_zero] at s2
        obtain ⟨P, q, vs, v, ta, ov, h⟩ := s2
        have hvs : vs = [] := List.length_eq_zero_iff.1 h.len
        subst hvs
        have low : ∀ m, m < H.length → G3[m]? = H[m]? := fun m hm => by
          rw [s3.low m hm, hG, List.getElem?_append_left (by omega), w1 m hm]
        have hle : H.length ≤ G3.length := by have := s3.len; rw [hG] at this; simp at this; omega
        obtain ⟨hcut, htk⟩ := cut_low hle low
        generalize hcu : glueL ps.length 0 [] ps = cur at h
        have hcl := h.cell
        have hpr := h.par
        have hlv := fun G => lenPcV (G := G) h.cr
        have hia := ias_par (id := P) (n := 1) (i := 0) (by omega) .i64
        have hld : rload none [v] 0 = some v := rfl
        have hdn : (gS cur).done.length + 1 = 1 := rfl
        rw [hdn] at hcl
        rw [List.nil_append] at hpr
        simp only [kv_cons, kv_nil, Int.ofNat_zero] at s1 hia
        rw [hG] at s1
        have hbig : decide ((512 : Int) < (((gS cur).cur.length : Nat) : Int)) = bigP cur := rfl
        have hde := deepE hcut 3 3
        rw [htk] at hde
        have hfz := handV_deep hcut (v := .tuple [v, .int .u8 0]) ⟨6, fz_tuple (mapO_cons (fz_pc h.cr h.pr) (mapO_cons (fz_int _ _ _ _ _) (mapO_nil _)))⟩
        rw [htk] at hfz
        have hcc : (gS cur).cur = cur := rfl
        rw [hcc] at hfz
        cases c2 : bigP cur with
        | true =>
          simp (maxSteps := 3000000) (maxDischargeDepth := 6) +contextual -implicitDefEqProofs only [amC M, ↓amD, Nat.reduceBEq, Nat.reduceAdd, env, fargs, q_docs_Glue, amG, AV.cell, Nat.reduceMul, Nat.reduceLeDiff, rnc, List.length_map, q0, g0, g1, gluV, d0, c0, c1, hcu, s1, hcl, hpr, cl5, hia, hld, hlv, hbig, c2, hde]
        | false =>
          simp (maxSteps := 3000000) (maxDischargeDepth := 6) +contextual -implicitDefEqProofs only [amC M, ↓amD, Nat.reduceBEq, Nat.reduceAdd, env, fargs, q_docs_Glue, amG, AV.cell, Nat.reduceMul, Nat.reduceLeDiff, rnc, List.length_map, q0, g0, g1, gluV, d0, c0, c1, hcu, s1, hcl, hpr, cl5, hia, hld, hlv, hbig, c2, hfz]
end Go.Am
end

section
set_option linter.unusedSimpArgs false
set_option linter.unusedVariables false
set_option maxRecDepth 100000
set_option maxHeartbeats 4000000
namespace Go.Am
open Go.RowKit
attribute [local congr] dsel_congr sel_c1 slc_cong gsel_congr go_congr aft_congr aftD_congr condR_congr backR_congr inR_congr at2_congr
variable {E : REnv} (M : Mach cdec E)

/-! The specification's ends and Glue -/
theorem stsr_wk (n : Nat) (l : List Str) : RowsWk n (l.map strRow) := by
  rw [rowsWk_map]; exact fun _ _ => ⟨wk_str _ _, trivial⟩
theorem ap_o2 {l : List Str} (s : Str) (H : List AObj) (y : AObj) (hl : l.length ≤ 1000000) :
    rap false (H ++ [y, .tok (l.length * 1) t_string]) t_string 1 16 false (.slice (.own (H.length + 1)) 1 (l.map strRow)) (.slice .full 1 [[.str s]]) = some (.slice (.own (H.length + 1)) 1 ((l ++ [s]).map strRow), H ++ [y, .tok ((l ++ [s]).length * 1) t_string]) := by
  have h := ap_ownL (row := strRow) (l := l) (x := s) (r := [.str s]) (sz := 1) (bytes := 16) (e := t_string) (H ++ [y]) [] rfl rfl rfl (by omega) (by omega)
  simpa using h
theorem ren {H H0 : List AObj} {l : List Piece} {tg : Tag} (hl : l.length ≤ 1000000) (k : List Fra) : ∀ (n i : Nat) (a b : List Str) (He : List AObj), i + n = l.length → a.length ≤ i → b.length ≤ i →
    M.go a_truchmanref01_ends H0 (.c l_truchmanref01_ends_0 :: .lp ⟨(some [0, 4, 5, 6]), [(4, 1, t_string), (5, 1, t_string)], false⟩ l_truchmanref01_ends_0 He :: .blk 0 :: .c (.lv [4, 5]) :: k) (kv [(0, .slice tg 3 (l.map Piece.row)), (4, .slice (.own H.length) 1 (a.map strRow)), (5, .slice (.own (H.length + 1)) 1 (b.map strRow)), (6, .int .i64 i)]) (H ++ [.tok (a.length * 1) t_string, .tok (b.length * 1) t_string]) =
      M.go a_truchmanref01_ends H0 k (kv [(4, .slice (.own H.length) 1 ((a ++ carO 3 (l.drop i)).map strRow)), (5, .slice (.own (H.length + 1)) 1 ((b ++ carO 2 (l.drop i)).map strRow))]) (H ++ [.tok ((a ++ carO 3 (l.drop i)).length * 1) t_string, .tok ((b ++ carO 2 (l.drop i)).length * 1) t_string])
  | 0, i, a, b, He, h, ha, hb => by
    have e : i = l.length := by omega
    subst e
    rw [List.drop_length, show ∀ k, carO k [] = [] from fun _ => rfl, show carO 2 [] = [] from rfl, List.append_nil, List.append_nil]
    rw [go_head M l_truchmanref01_ends_0.eq_1]
    simp (maxSteps := 3000000) (maxDischargeDepth := 6) +contextual -implicitDefEqProofs only [amC M, ↓amD, Nat.reduceBEq, Nat.reduceAdd, env, fargs, q_truchmanref01_ends, Nat.lt_irrefl, List.length_map]
  | n + 1, i, a, b, He, h, ha, hb => by
    have hi : i < l.length := by omega
    have hx : l[i]? = some l[i] := List.getElem?_eq_getElem hi
    have hd : (l.drop i) = l[i] :: l.drop (i + 1) := List.drop_eq_getElem_cons hi
    have hwi := wrap_s (n := l.length) hi (by simp only [maxL]; omega)
    have hir := ias_row (row := Piece.row) (tag := tg) (sz := 3) (k := .i64) hi
    rw [hd, carO_cons, carO_cons]
    cases kc : l[i].car with
    | false =>
      have ih := fun He => ren (H := H) (H0 := H0) (tg := tg) hl k n (i + 1) a b He (by omega) (by omega) (by omega)
      simp only [kv_cons, kv_nil] at ih
      rw [Bool.false_and, Bool.false_and, sel_false, List.nil_append, List.nil_append]
      rw [go_head M l_truchmanref01_ends_0.eq_1]
      simp (maxSteps := 3000000) (maxDischargeDepth := 6) +contextual -implicitDefEqProofs only [amC M, ↓amD, Nat.reduceBEq, Nat.reduceAdd, env, fargs, q_truchmanref01_ends, hi, hx, hir, hwi, qPiece, kc, ih, List.length_map]
    | true =>
      rw [Bool.true_and, Bool.true_and]
      cases k3 : l[i].kind == 3 with
      | true =>
        have k2 : (l[i].kind == 2) = false := by rw [eq_of_beq k3]; rfl
        have ap := ap_ownL (row := strRow) (l := a) (x := l[i].text) (r := [.str l[i].text]) (sz := 1) (bytes := 16) (e := t_string) H [.tok (b.length * 1) t_string] rfl rfl rfl (by omega) (by omega)
        have ih := fun He => ren (H := H) (H0 := H0) (tg := tg) hl k n (i + 1) (a ++ [l[i].text]) b He (by omega) (by simp; omega) (by omega)
        simp only [kv_cons, kv_nil] at ih
        rw [k2, sel_true, sel_false, List.nil_append, ← List.append_assoc]
        rw [go_head M l_truchmanref01_ends_0.eq_1]
        simp (maxSteps := 3000000) (maxDischargeDepth := 6) +contextual -implicitDefEqProofs only [amC M, ↓amD, Nat.reduceBEq, Nat.reduceAdd, env, fargs, q_truchmanref01_ends, amG, AV.cell, Nat.reduceMul, Nat.reduceLeDiff, hi, hx, hir, hwi, qPiece, kc, k2, k3, ap, ih]
      | false =>
        rw [sel_false, List.nil_append]
        cases k2 : l[i].kind == 2 with
        | true =>
          have ap := ap_o2 (l := b) l[i].text H (.tok (a.length * 1) t_string) (by omega)
          have ih := fun He => ren (H := H) (H0 := H0) (tg := tg) hl k n (i + 1) a (b ++ [l[i].text]) He (by omega) (by omega) (by simp; omega)
          simp only [kv_cons, kv_nil] at ih
          rw [sel_true, ← List.append_assoc]
          rw [go_head M l_truchmanref01_ends_0.eq_1]
          simp (maxSteps := 3000000) (maxDischargeDepth := 6) +contextual -implicitDefEqProofs only [amC M, ↓amD, Nat.reduceBEq, Nat.reduceAdd, env, fargs, q_truchmanref01_ends, amG, AV.cell, Nat.reduceMul, Nat.reduceLeDiff, hi, hx, hir, hwi, qPiece, kc, k2, k3, ap, ih]
        | false =>
          have ih := fun He => ren (H := H) (H0 := H0) (tg := tg) hl k n (i + 1) a b He (by omega) (by omega) (by omega)
          simp only [kv_cons, kv_nil] at ih
          rw [sel_false, List.nil_append]
          rw [go_head M l_truchmanref01_ends_0.eq_1]
          simp (maxSteps := 3000000) (maxDischargeDepth := 6) +contextual -implicitDefEqProofs only [amC M, ↓amD, Nat.reduceBEq, Nat.reduceAdd, env, fargs, q_truchmanref01_ends, hi, hx, hir, hwi, qPiece, kc, k2, k3, ih]
theorem run_rends (hC : CutE E) {l : List Piece} {tg : Tag} (hl : l.length ≤ 1000000) (H : List AObj) : M.run f_truchmanref01_ends [.slice tg 3 (l.map Piece.row)] H = some (.ret (.tuple [.slice .any 1 ((carO 3 l).map strRow), .slice .any 1 ((carO 2 l).map strRow)]), H) := by
  rw [run_c M hC.truchmanref01_ends rfl (c := c_truchmanref01_ends) rfl, c_truchmanref01_ends]
  have h1 := fun k He => ren M (H := H) (H0 := H) (tg := tg) hl k l.length 0 [] [] He (by omega) (Nat.le_refl _) (Nat.le_refl _)
  simp only [kv_cons, kv_nil, Int.ofNat_zero, List.drop_zero, List.nil_append, List.length_nil, Nat.zero_mul, List.map_nil] at h1
  have hh := handV_drop (cut_app H [.tok ((carO 3 l).length * 1) t_string, .tok ((carO 2 l).length * 1) t_string]) (wk_tuple (xs := [.slice (.own H.length) 1 ((carO 3 l).map strRow), .slice (.own (H.length + 1)) 1 ((carO 2 l).map strRow)]) ⟨wk_any (esz := 1) (tag := .own H.length) (stsr_wk H.length _), wk_any (esz := 1) (tag := .own (H.length + 1)) (stsr_wk H.length _), trivial⟩)
  simp only [anyV_tuple, anyV_slice, hp_take] at hh
  simp (maxSteps := 3000000) (maxDischargeDepth := 6) +contextual -implicitDefEqProofs only [amC M, ↓amD, Nat.reduceBEq, Nat.reduceAdd, env, fargs, q_truchmanref01_ends, h1, hh]
end Go.Am
end

section
set_option linter.unusedSimpArgs false
set_option linter.unusedVariables false
set_option maxRecDepth 100000
set_option maxHeartbeats 4000000
namespace Go.Am
open Go.RowKit
attribute [local congr] dsel_congr sel_c1 slc_cong gsel_congr go_congr aft_congr aftD_congr condR_congr backR_congr inR_congr at2_congr
variable {E : REnv} (M : Mach cdec E)

/-! The specification's Glue -/
theorem rg0 (hB : BasE E) {H H0 : List AObj} (hc : CutOk H0 H) {ps : List (Sl Piece)} {tg : Tag} (hn : ps.length ≤ 1000) (hps : ∀ p ∈ ps, p.l.length ≤ 1000000 ∧ TxtOk p.l) (k : List Fra) : ∀ (n i : Nat) (He : List AObj), i + n = ps.length →
    M.go a_truchmanref01_Glue H0 (.c l_truchmanref01_Glue_0 :: .lp ⟨(some [0, 4]), [], false⟩ l_truchmanref01_Glue_0 He :: .blk 0 :: .c (.lv [0]) :: k) (kv [(0, .slice tg 1 (ps.map plRow)), (4, .int .i64 i)]) H =
      sel (chkPs (ps.drop i) == 0) (M.go a_truchmanref01_Glue H0 k (kv [(0, .slice tg 1 (ps.map plRow))]) H) (some (.ret (.tuple [.slice .nil 3 [], .int .u8 (chkPs (ps.drop i))]), H.take H0.length))
  | 0, i, He, h => by
    have e : i = ps.length := by omega
    subst e
    rw [List.drop_length, chkPs, show ((0 : Int) == 0) = true from rfl, sel_true]
    rw [go_head M l_truchmanref01_Glue_0.eq_1]
    simp (maxSteps := 3000000) (maxDischargeDepth := 6) +contextual -implicitDefEqProofs only [amC M, ↓amD, Nat.reduceBEq, Nat.reduceAdd, env, fargs, q_truchmanref01_Glue, Nat.lt_irrefl, List.length_map]
  | n + 1, i, He, h => by
    have hi : i < ps.length := by omega
    have hx : ps[i]? = some ps[i] := List.getElem?_eq_getElem hi
    have hd : (ps.drop i) = ps[i] :: ps.drop (i + 1) := List.drop_eq_getElem_cons hi
    have hwi := wrap_s (n := ps.length) hi (by simp only [maxL]; omega)
    have hir := ias_row (row := plRow) (tag := tg) (sz := 1) (k := .i64) hi
    obtain ⟨p1, p2⟩ := hps _ (List.getElem_mem hi)
    have hck := fun H => run_rCheckPieces M hB (l := ps[i]) p1 p2 H
    have ih := fun He => rg0 hB hc (tg := tg) hn hps k n (i + 1) He (by omega)
    simp only [kv_cons, kv_nil] at ih
    have hde := fun e => deepE hc 3 e
    rw [hd, chkPs]
    cases c0 : checkP ps[i].l == 0 with
    | true =>
      rw [sel_true]
      rw [go_head M l_truchmanref01_Glue_0.eq_1]
      simp (maxSteps := 3000000) (maxDischargeDepth := 6) +contextual -implicitDefEqProofs only [amC M, ↓amD, Nat.reduceBEq, Nat.reduceAdd, env, fargs, q_truchmanref01_Glue, hi, hx, hir, hwi, qPl, hck, c0, ih, Bool.not_true, List.length_map]
    | false =>
      rw [sel_false, c0, sel_false]
      rw [go_head M l_truchmanref01_Glue_0.eq_1]
      simp (maxSteps := 3000000) (maxDischargeDepth := 6) +contextual -implicitDefEqProofs only [amC M, ↓amD, Nat.reduceBEq, Nat.reduceAdd, env, fargs, q_truchmanref01_Glue, hi, hx, hir, hwi, qPl, hck, c0, hde, Bool.not_false, List.length_map]
theorem rg1 {H H0 : List AObj} (hc : CutOk H0 H) {pv : AV} {v6 : AV} {a b : List Str} (hab : a.length = b.length) (hl : b.length ≤ 1000000) (k : List Fra) : ∀ (n j : Nat) (He : List AObj), j + n = b.length →
    M.go a_truchmanref01_Glue H0 (.c l_truchmanref01_Glue_1 :: .lp ⟨(some [0, 6, 7, 10, 11, 12]), [], false⟩ l_truchmanref01_Glue_1 He :: .blk 4 :: .c (.lv [0, 6]) :: k) (kv [(0, pv), (6, v6), (7, .slice .any 1 (a.map strRow)), (10, .slice .any 1 (b.map strRow)), (11, .int .i64 b.length), (12, .int .i64 j)]) H =
      sel (a.drop j == b.reverse.drop j) (M.go a_truchmanref01_Glue H0 k (kv [(0, pv), (6, v6)]) H) (some (.ret (.tuple [.slice .nil 3 [], .int .u8 10]), H.take H0.length))
  | 0, j, He, h => by
    have e : j = b.length := by omega
    subst e
    rw [List.drop_of_length_le (by omega), List.drop_of_length_le (by simp), show (([] : List Str) == []) = true from rfl, sel_true]
    rw [go_head M l_truchmanref01_Glue_1.eq_1]
    simp (maxSteps := 3000000) (maxDischargeDepth := 6) +contextual -implicitDefEqProofs only [amC M, ↓amD, Nat.reduceBEq, Nat.reduceAdd, env, fargs, q_truchmanref01_Glue, Nat.lt_irrefl]
  | n + 1, j, He, h => by
    have hj : j < b.length := by omega
    have hja : j < a.length := by omega
    have hjr : j < b.reverse.length := by simpa using hj
    have hb : b.length - 1 - j < b.length := by omega
    have xa : a[j]? = some a[j] := List.getElem?_eq_getElem hja
    have xb : b[b.length - 1 - j]? = some b[b.length - 1 - j] := List.getElem?_eq_getElem hb
    have hra := ias_row (row := strRow) (tag := .any) (sz := 1) (k := .i64) hja
    have hrb := ias_row (row := strRow) (tag := .any) (sz := 1) (k := .i64) hb
    have hw1 : IntKind.i64.wrap ((b.length : Int) - 1) = ((b.length - 1 : Nat) : Int) := by rw [wrap_i64 (by omega) (by omega)]; omega
    have hw2 : IntKind.i64.wrap (((b.length - 1 : Nat) : Int) - (j : Int)) = ((b.length - 1 - j : Nat) : Int) := by rw [wrap_i64 (by omega) (by omega)]; omega
    have hwj := wrap_s (n := b.length) hj (by simp only [maxL]; omega)
    have ih := fun He => rg1 hc (pv := pv) (v6 := v6) hab hl k n (j + 1) He (by omega)
    simp only [kv_cons, kv_nil] at ih
    have hde := deepE hc 3 10
    have er : b.reverse[j] = b[b.length - 1 - j] := List.getElem_reverse _
    rw [List.drop_eq_getElem_cons hja, List.drop_eq_getElem_cons hjr, List.cons_beq_cons, er]
    cases he : a[j] == b[b.length - 1 - j] with
    | true =>
      rw [Bool.true_and]
      rw [go_head M l_truchmanref01_Glue_1.eq_1]
      simp (maxSteps := 3000000) (maxDischargeDepth := 6) +contextual -implicitDefEqProofs only [amC M, ↓amD, Nat.reduceBEq, Nat.reduceAdd, env, fargs, q_truchmanref01_Glue, hj, hja, hb, xa, xb, hra, hrb, hw1, hw2, hwj, qStr, he, ih, Bool.not_true]
    | false =>
      rw [Bool.false_and, sel_false]
      rw [go_head M l_truchmanref01_Glue_1.eq_1]
      simp (maxSteps := 3000000) (maxDischargeDepth := 6) +contextual -implicitDefEqProofs only [amC M, ↓amD, Nat.reduceBEq, Nat.reduceAdd, env, fargs, q_truchmanref01_Glue, hj, hja, hb, xa, xb, hra, hrb, hw1, hw2, hwj, qStr, he, hde, Bool.not_false]
theorem rg2 (hC : CutE E) {H H0 : List AObj} (hc : CutOk H0 H) {ps : List (Sl Piece)} {tg : Tag} (hn : ps.length ≤ 1000) (hps : ∀ p ∈ ps, p.l.length ≤ 1000000) (k : List Fra) : ∀ (n j : Nat) (He : List AObj), j + 1 + n = ps.length →
    M.go a_truchmanref01_Glue H0 (.c l_truchmanref01_Glue_2 :: .lp ⟨(some [0, 6]), [], false⟩ l_truchmanref01_Glue_2 He :: .blk 2 :: .c (.lv [0]) :: k) (kv [(0, .slice tg 1 (ps.map plRow)), (6, .int .i64 ((j + 1 : Nat) : Int))]) H =
      sel (adjB (ps.drop j)) (M.go a_truchmanref01_Glue H0 k (kv [(0, .slice tg 1 (ps.map plRow))]) H) (some (.ret (.tuple [.slice .nil 3 [], .int .u8 10]), H.take H0.length))
  | 0, j, He, h => by
    have e : ps.length = j + 1 := by omega
    have hj : j < ps.length := by omega
    have ha : adjB (ps.drop j) = true := by
      rw [List.drop_eq_getElem_cons hj, List.drop_of_length_le (by omega)]; rfl
    rw [ha, sel_true]
    have hlt : ¬ (j + 1 < ps.length) := by omega
    rw [go_head M l_truchmanref01_Glue_2.eq_1]
    simp (maxSteps := 3000000) (maxDischargeDepth := 6) +contextual -implicitDefEqProofs only [amC M, ↓amD, Nat.reduceBEq, Nat.reduceAdd, env, fargs, q_truchmanref01_Glue, hlt, List.length_map]
  | n + 1, j, He, h => by
    have hj : j < ps.length := by omega
    have hi : j + 1 < ps.length := by omega
    have hxj : ps[j]? = some ps[j] := List.getElem?_eq_getElem hj
    have hxi : ps[j + 1]? = some ps[j + 1] := List.getElem?_eq_getElem hi
    have hrj := ias_row (row := plRow) (tag := tg) (sz := 1) (k := .i64) hj
    have hri := ias_row (row := plRow) (tag := tg) (sz := 1) (k := .i64) hi
    have hwj : IntKind.i64.wrap (((j + 1 : Nat) : Int) - 1) = (j : Int) := by rw [wrap_i64 (by omega) (by omega)]; omega
    have hwi := wrap_s (n := ps.length) hi (by simp only [maxL]; omega)
    have bj := hps _ (List.getElem_mem hj)
    have bi := hps _ (List.getElem_mem hi)
    have e1 := fun H => run_rends M hC (l := ps[j].l) (tg := ps[j].tag) bj H
    have f1 := fun H => run_rends M hC (l := ps[j + 1].l) (tg := ps[j + 1].tag) bi H
    have cl : ∀ (k : Int) (l : List Piece), (carO k l).length ≤ l.length := fun k l => by unfold carO; rw [List.length_map]; exact List.length_filter_le _ _
    have c2 := cl 2 ps[j + 1].l
    have hde := deepE hc 3 10
    have hd : ps.drop j = ps[j] :: ps[j + 1] :: ps.drop (j + 1 + 1) := by rw [List.drop_eq_getElem_cons hj, List.drop_eq_getElem_cons hi]
    have ha : adjB (ps.drop j) = ((carO 3 ps[j].l == (carO 2 ps[j + 1].l).reverse) && adjB (ps.drop (j + 1))) := by
      rw [hd, adjB_two, List.drop_eq_getElem_cons hi]
    have ih := fun He => rg2 hC hc (tg := tg) hn hps k n (j + 1) He (by omega)
    simp only [kv_cons, kv_nil] at ih
    rw [ha]
    by_cases hab : (carO 3 ps[j].l).length = (carO 2 ps[j + 1].l).length
    · have hq : ((((carO 3 ps[j].l).length : Nat) : Int) == (((carO 2 ps[j + 1].l).length : Nat) : Int)) = true := by rw [hab]; simp
      have hq' : ((carO 3 ps[j].l).length == (carO 2 ps[j + 1].l).length) = true := by rw [hab]; simp
      have r1 := fun k He => rg1 M hc (pv := .slice tg 1 (ps.map plRow)) (v6 := .int .i64 ((j + 1 : Nat) : Int)) hab (by omega) k (carO 2 ps[j + 1].l).length 0 He (by omega)
      simp only [kv_cons, kv_nil, Int.ofNat_zero, List.drop_zero] at r1
      cases c0 : carO 3 ps[j].l == (carO 2 ps[j + 1].l).reverse with
      | false =>
        simp only [c0, sel_false] at r1
        rw [Bool.false_and, sel_false]
        rw [go_head M l_truchmanref01_Glue_2.eq_1]
        simp (maxSteps := 3000000) (maxDischargeDepth := 6) +contextual -implicitDefEqProofs only [amC M, ↓amD, Nat.reduceBEq, Nat.reduceAdd, env, fargs, q_truchmanref01_Glue, hi, hj, hxj, hxi, hrj, hri, hwj, hwi, qPl, List.length_map, e1, f1, hq, hq', r1, aextract, List.getElem?_cons_zero, List.getElem?_cons_succ, Bool.not_true]
      | true =>
        simp only [c0, sel_true] at r1
        rw [Bool.true_and]
        rw [go_head M l_truchmanref01_Glue_2.eq_1]
        simp (maxSteps := 3000000) (maxDischargeDepth := 6) +contextual -implicitDefEqProofs only [amC M, ↓amD, Nat.reduceBEq, Nat.reduceAdd, env, fargs, q_truchmanref01_Glue, hi, hj, hxj, hxi, hrj, hri, hwj, hwi, qPl, List.length_map, e1, f1, hq, hq', r1, ih, aextract, List.getElem?_cons_zero, List.getElem?_cons_succ, Bool.not_true]
    · have hq : ((((carO 3 ps[j].l).length : Nat) : Int) == (((carO 2 ps[j + 1].l).length : Nat) : Int)) = false := beq_eq_false_iff_ne.2 (by omega)
      have hq' : ((carO 3 ps[j].l).length == (carO 2 ps[j + 1].l).length) = false := beq_eq_false_iff_ne.2 hab
      have c0 : (carO 3 ps[j].l == (carO 2 ps[j + 1].l).reverse) = false := beq_eq_false_iff_ne.2 fun e => hab (by rw [e, List.length_reverse])
      rw [c0, Bool.false_and, sel_false]
      rw [go_head M l_truchmanref01_Glue_2.eq_1]
      simp (maxSteps := 3000000) (maxDischargeDepth := 6) +contextual -implicitDefEqProofs only [amC M, ↓amD, Nat.reduceBEq, Nat.reduceAdd, env, fargs, q_truchmanref01_Glue, hi, hj, hxj, hxi, hrj, hri, hwj, hwi, qPl, List.length_map, e1, f1, hq, hq', hde, aextract, List.getElem?_cons_zero, List.getElem?_cons_succ, Bool.not_false]
theorem rg3 (hC : CutE E) {H0 : List AObj} {ps : List (Sl Piece)} {tgp : Tag} (hnp : ps.length ≤ 1000) {i : Nat} (hi0 : i < ps.length) (hpl : ps[i].l.length ≤ 1000000) : ∀ (n j m : Nat) (H : List AObj) (v : AV) (cur : List Piece), j + n = ps[i].l.length → PcV H v cur → free (fun q => q < H0.length) v → H0.length ≤ H.length → (∀ q, q < H0.length → H[q]? = H0[q]?) → CurB m cur → m + szQ (ps[i].l.drop j) ≤ 1000000 →
    ∃ H' v', (∀ (k : List Fra) (He : List AObj), M.go a_truchmanref01_Glue H0 (.c l_truchmanref01_Glue_3 :: .lp ⟨(some [0, 13, 14, 15]), [], false⟩ l_truchmanref01_Glue_3 He :: .blk 8 :: .c (.lv [0, 13, 14]) :: k) (kv [(0, .slice tgp 1 (ps.map plRow)), (13, v), (14, .int .i64 i), (15, .int .i64 j)]) H = M.go a_truchmanref01_Glue H0 k (kv [(0, .slice tgp 1 (ps.map plRow)), (13, v'), (14, .int .i64 i)]) H') ∧ PcV H' v' (glue1 ps.length i cur (ps[i].l.drop j)) ∧ free (fun q => q < H0.length) v' ∧ H0.length ≤ H'.length ∧ (∀ q, q < H0.length → H'[q]? = H0[q]?)
  | 0, j, m, H, v, cur, h, hv, hf, hle, hlow, hb, hm => by
    have e : j = ps[i].l.length := by omega
    have hx : ps[i]? = some ps[i] := List.getElem?_eq_getElem hi0
    have hri := ias_row (row := plRow) (tag := tgp) (sz := 1) (k := .i64) hi0
    have hlt : ¬ j < ps[i].l.length := by omega
    refine ⟨H, v, fun k He => ?_, by rw [List.drop_of_length_le (by omega)]; exact hv, hf, hle, hlow⟩
    rw [go_head M l_truchmanref01_Glue_3.eq_1]
    simp (maxSteps := 3000000) (maxDischargeDepth := 6) +contextual -implicitDefEqProofs only [amC M, ↓amD, Nat.reduceBEq, Nat.reduceAdd, env, fargs, q_truchmanref01_Glue, hi0, hx, hri, qPl, List.length_map, hlt]
  | n + 1, j, m, H, v, cur, h, hv, hf, hle, hlow, hb, hm => by
    have hj : j < ps[i].l.length := by omega
    have hxi : ps[i]? = some ps[i] := List.getElem?_eq_getElem hi0
    have hri := ias_row (row := plRow) (tag := tgp) (sz := 1) (k := .i64) hi0
    have hd := List.drop_eq_getElem_cons hj
    have hx := List.getElem?_eq_getElem hj
    have hwj := wrap_s (n := ps[i].l.length) hj (by simp only [maxL]; omega)
    have hir := ias_row (row := Piece.row) (tag := ps[i].tag) (sz := 3) (k := .i64) hj
    have hwl : IntKind.i64.wrap ((ps.length : Int) - 1) = ((ps.length - 1 : Nat) : Int) := by rw [wrap_i64 (by omega) (by omega)]; omega
    rw [hd] at hm ⊢
    rw [szQ_cons] at hm
    generalize hpc : ps[i].l[j] = pc at *
    have gx := hp_get0 H [AObj.cells pc.row t_api_Piece]
    rw [List.getElem?_cons_zero] at gx
    have h1 : PcV (H ++ [AObj.cells pc.row t_api_Piece]) v cur := hv.stay fun Q cs _ hQ => hp_getl hQ
    have hgi := skip_of (n := 0) (i := i) pc
    show ∃ H' v', _ ∧ PcV H' v' (glue1 ps.length i (sel (skipB ps.length i pc) cur (putF cur pc)) (ps[i].l.drop (j + 1))) ∧ _
    have le1 : H0.length ≤ (H ++ [AObj.cells pc.row t_api_Piece]).length := by simp; omega
    have low1 : ∀ q, q < H0.length → (H ++ [AObj.cells pc.row t_api_Piece])[q]? = H0[q]? := fun q hq => by rw [List.getElem?_append_left (by omega), hlow q hq]
    obtain ⟨w, G, p1, p2, p3, p4, p5, p6⟩ := run_add M hC h1 (by have := hb.1; omega) (fun x hx => by have := hb.2 x hx; omega) (p := pc) (by omega)
    have step : ∃ G1 v1, (∀ (k : List Fra) (He : List AObj), M.go a_truchmanref01_Glue H0 (.c l_truchmanref01_Glue_3 :: .lp ⟨(some [0, 13, 14, 15]), [], false⟩ l_truchmanref01_Glue_3 He :: .blk 8 :: .c (.lv [0, 13, 14]) :: k) (kv [(0, .slice tgp 1 (ps.map plRow)), (13, v), (14, .int .i64 i), (15, .int .i64 j)]) H =
        M.go a_truchmanref01_Glue H0 (.c l_truchmanref01_Glue_3 :: .lp ⟨(some [0, 13, 14, 15]), [], false⟩ l_truchmanref01_Glue_3 G1 :: .blk 8 :: .c (.lv [0, 13, 14]) :: k) (kv [(0, .slice tgp 1 (ps.map plRow)), (13, v1), (14, .int .i64 i), (15, .int .i64 ((j + 1 : Nat) : Int))]) G1) ∧ PcV G1 v1 (sel (skipB ps.length i pc) cur (putF cur pc)) ∧ free (fun q => q < H0.length) v1 ∧ H0.length ≤ G1.length ∧ (∀ q, q < H0.length → G1[q]? = H0[q]?) := by
      have low2 : ∀ q, q < H0.length → G[q]? = H0[q]? := fun q hq => by
        have hq1 : q < (H ++ [AObj.cells pc.row t_api_Piece]).length := by omega
        rw [← low1 q hq, List.getElem?_eq_getElem hq1]
        exact p6 q _ (List.getElem?_eq_getElem hq1) fun Q e ei => hf Q _ _ _ _ e (by omega)
      have fw : free (fun q => q < H0.length) w := fun Q o n e r eq hlt => by
        rcases p4 Q o n e r eq with h | h
        · exact hf Q o n e r (by rw [← h, eq]) hlt
        · omega
      cases hsk : skipB ps.length i pc with
      | true =>
        rw [sel_true]
        unfold skipB at hsk
        rw [Bool.and_eq_true] at hsk
        obtain ⟨hs1, hs2⟩ := hsk
        refine ⟨_, v, fun k He => ?_, h1, hf, le1, low1⟩
        cases k2 : pc.kind == 2 with
        | true =>
          have k3 : (pc.kind == 3) = false := by rw [eq_of_beq k2]; rfl
          rw [k2, k3, Bool.true_and, Bool.false_and, Bool.or_false] at hs2
          rw [hs2] at hgi
          rw [go_head M l_truchmanref01_Glue_3.eq_1]
          simp (maxSteps := 3000000) (maxDischargeDepth := 6) +contextual -implicitDefEqProofs only [amC M, ↓amD, Nat.reduceBEq, Nat.reduceAdd, env, fargs, q_truchmanref01_Glue, amG, AV.cell, Nat.reduceMul, Nat.reduceLeDiff, hi0, hxi, hri, hj, hx, hpc, hir, hwj, hwl, qPl, List.length_map, qPiece, gx, hs1, k2, k3, hgi, Bool.not_true]
        | false =>
          cases k3 : pc.kind == 3 with
          | false => rw [k2, k3] at hs2; cases hs2
          | true =>
            rw [k2, k3, Bool.true_and, Bool.false_and, Bool.false_or] at hs2
            have hlt : i < ps.length - 1 := by have := of_decide_eq_true hs2; omega
            rw [go_head M l_truchmanref01_Glue_3.eq_1]
            simp (maxSteps := 3000000) (maxDischargeDepth := 6) +contextual -implicitDefEqProofs only [amC M, ↓amD, Nat.reduceBEq, Nat.reduceAdd, env, fargs, q_truchmanref01_Glue, amG, AV.cell, Nat.reduceMul, Nat.reduceLeDiff, hi0, hxi, hri, hj, hx, hpc, hir, hwj, hwl, qPl, List.length_map, qPiece, gx, hs1, k2, k3, hlt, Bool.not_true]
      | false =>
        rw [sel_false]
        unfold skipB at hsk
        refine ⟨G, w, fun k He => ?_, p2, fw, by omega, low2⟩
        cases kc : pc.car with
        | false =>
          rw [go_head M l_truchmanref01_Glue_3.eq_1]
          simp (maxSteps := 3000000) (maxDischargeDepth := 6) +contextual -implicitDefEqProofs only [amC M, ↓amD, Nat.reduceBEq, Nat.reduceAdd, env, fargs, q_truchmanref01_Glue, amG, AV.cell, Nat.reduceMul, Nat.reduceLeDiff, hi0, hxi, hri, hj, hx, hpc, hir, hwj, hwl, qPl, List.length_map, qPiece, gx, kc, p1, Bool.not_false]
        | true =>
          rw [kc, Bool.true_and] at hsk
          cases k2 : pc.kind == 2 with
          | true =>
            have k3 : (pc.kind == 3) = false := by rw [eq_of_beq k2]; rfl
            rw [k2, k3, Bool.true_and, Bool.false_and, Bool.or_false] at hsk
            rw [hsk] at hgi
            rw [go_head M l_truchmanref01_Glue_3.eq_1]
            simp (maxSteps := 3000000) (maxDischargeDepth := 6) +contextual -implicitDefEqProofs only [amC M, ↓amD, Nat.reduceBEq, Nat.reduceAdd, env, fargs, q_truchmanref01_Glue, amG, AV.cell, Nat.reduceMul, Nat.reduceLeDiff, hi0, hxi, hri, hj, hx, hpc, hir, hwj, hwl, qPl, List.length_map, qPiece, gx, kc, k2, k3, hgi, p1, Bool.not_false]
          | false =>
            rw [k2, Bool.false_and, Bool.false_or] at hsk
            cases k3 : pc.kind == 3 with
            | false =>
              rw [go_head M l_truchmanref01_Glue_3.eq_1]
              simp (maxSteps := 3000000) (maxDischargeDepth := 6) +contextual -implicitDefEqProofs only [amC M, ↓amD, Nat.reduceBEq, Nat.reduceAdd, env, fargs, q_truchmanref01_Glue, amG, AV.cell, Nat.reduceMul, Nat.reduceLeDiff, hi0, hxi, hri, hj, hx, hpc, hir, hwj, hwl, qPl, List.length_map, qPiece, gx, kc, k2, k3, p1, Bool.not_false]
            | true =>
              rw [k3, Bool.true_and] at hsk
              have hlt : ¬ (i < ps.length - 1) := by have := of_decide_eq_false hsk; omega
              rw [go_head M l_truchmanref01_Glue_3.eq_1]
              simp (maxSteps := 3000000) (maxDischargeDepth := 6) +contextual -implicitDefEqProofs only [amC M, ↓amD, Nat.reduceBEq, Nat.reduceAdd, env, fargs, q_truchmanref01_Glue, amG, AV.cell, Nat.reduceMul, Nat.reduceLeDiff, hi0, hxi, hri, hj, hx, hpc, hir, hwj, hwl, qPl, List.length_map, qPiece, gx, kc, k2, k3, hlt, p1, Bool.not_false]
    obtain ⟨G1, v1, o1, o2, o3, o4, o5⟩ := step
    have hb2 : CurB (m + (pc.text.length + 1)) (sel (skipB ps.length i pc) cur (putF cur pc)) := by
      cases skipB ps.length i pc
      · exact hb.put pc
      · exact hb.mono (by omega)
    obtain ⟨H2, v2, i1, i2, i3, i4, i5⟩ := rg3 hC (H0 := H0) (tgp := tgp) hnp hi0 hpl n (j + 1) (m + (pc.text.length + 1)) G1 v1 _ (by omega) o2 o3 o4 o5 hb2 (by omega)
    exact ⟨H2, v2, fun k He => by rw [o1 k He, i1 k G1], i2, i3, i4, i5⟩
theorem rg4 (hC : CutE E) {H0 : List AObj} {ps : List (Sl Piece)} {tgp : Tag} (hnp : ps.length ≤ 1000) (hps : ∀ p ∈ ps, p.l.length ≤ 1000000) : ∀ (n i m : Nat) (H : List AObj) (v : AV) (cur : List Piece), i + n = ps.length → PcV H v cur → free (fun q => q < H0.length) v → H0.length ≤ H.length → (∀ q, q < H0.length → H[q]? = H0[q]?) → CurB m cur → m + szL (ps.drop i) ≤ 1000000 →
    ∃ H' v', (∀ (k : List Fra) (He : List AObj), M.go a_truchmanref01_Glue H0 (.c l_truchmanref01_Glue_4 :: .lp ⟨(some [0, 13, 14]), [], false⟩ l_truchmanref01_Glue_4 He :: .blk 6 :: .c (.lv [13]) :: k) (kv [(0, .slice tgp 1 (ps.map plRow)), (13, v), (14, .int .i64 i)]) H = M.go a_truchmanref01_Glue H0 k (kv [(13, v')]) H') ∧ PcV H' v' (glueL ps.length i cur (ps.drop i)) ∧ free (fun q => q < H0.length) v' ∧ H0.length ≤ H'.length ∧ (∀ q, q < H0.length → H'[q]? = H0[q]?)
  | 0, i, m, H, v, cur, h, hv, hf, hle, hlow, hb, hm => by
    have e : i = ps.length := by omega
    subst e
    refine ⟨H, v, fun k He => ?_, by rw [List.drop_length]; exact hv, hf, hle, hlow⟩
    rw [go_head M l_truchmanref01_Glue_4.eq_1]
    simp (maxSteps := 3000000) (maxDischargeDepth := 6) +contextual -implicitDefEqProofs only [amC M, ↓amD, Nat.reduceBEq, Nat.reduceAdd, env, fargs, q_truchmanref01_Glue, Nat.lt_irrefl, List.length_map]
  | n + 1, i, m, H, v, cur, h, hv, hf, hle, hlow, hb, hm => by
    have hi : i < ps.length := by omega
    have hd : (ps.drop i) = ps[i] :: ps.drop (i + 1) := List.drop_eq_getElem_cons hi
    have hwi := wrap_s (n := ps.length) hi (by simp only [maxL]; omega)
    have bi := hps _ (List.getElem_mem hi)
    rw [hd] at hm ⊢
    rw [szL_cons] at hm
    obtain ⟨H1, v1, a1, a2, a3, a4, a5⟩ := rg3 M hC (H0 := H0) (tgp := tgp) hnp hi bi ps[i].l.length 0 m H v cur (by omega) hv hf hle hlow hb (by rw [List.drop_zero]; omega)
    rw [List.drop_zero] at a2
    have hb2 := CurB.glue1 (n := ps.length) (i := i) ps[i].l hb
    obtain ⟨H2, v2, i1, i2, i3, i4, i5⟩ := rg4 hC (H0 := H0) (tgp := tgp) hnp hps n (i + 1) (m + szQ ps[i].l) H1 v1 _ (by omega) a2 a3 a4 a5 hb2 (by omega)
    refine ⟨H2, v2, fun k He => ?_, i2, i3, i4, i5⟩
    simp only [kv_cons, kv_nil, Int.ofNat_zero] at a1 i1
    rw [go_head M l_truchmanref01_Glue_4.eq_1]
    simp (maxSteps := 3000000) (maxDischargeDepth := 6) +contextual -implicitDefEqProofs only [amC M, ↓amD, Nat.reduceBEq, Nat.reduceAdd, env, fargs, q_truchmanref01_Glue, hi, hwi, a1, i1, List.length_map]
theorem run_rGlue (hB : BasE E) (hC : CutE E) {ps : List (Sl Piece)} {tg : Tag} (hn : ps.length ≤ 1000) (hps : ∀ p ∈ ps, p.l.length ≤ 1000000 ∧ TxtOk p.l) (hsz : szL ps ≤ 1000000) (H : List AObj) :
    M.run f_truchmanref01_Glue [.slice tg 1 (ps.map plRow)] H = some (.ret (gluV ps), H) := by
  have deS := fun e => deepE (cut_refl H) 3 e
  simp only [hp_self] at deS
  rw [run_c M hC.truchmanref01_Glue rfl (c := c_truchmanref01_Glue) rfl, c_truchmanref01_Glue]
  by_cases h0 : ps.length = 0
  · have d0 : decide (ps.length = 0) = true := decide_eq_true h0
    have q0 : (((ps.length : Nat) : Int) == 0) = true := by rw [h0]; rfl
    simp (maxSteps := 3000000) (maxDischargeDepth := 6) +contextual -implicitDefEqProofs only [amC M, ↓amD, Nat.reduceBEq, Nat.reduceAdd, env, fargs, q_truchmanref01_Glue, List.length_map, q0, deS, gluV, d0]
  · have d0 : decide (ps.length = 0) = false := decide_eq_false h0
    have q0 : (((ps.length : Nat) : Int) == 0) = false := beq_eq_false_iff_ne.2 (by omega)
    have g0 := fun k He => rg0 M hB (cut_refl H) (tg := tg) hn hps k ps.length 0 He (by omega)
    simp only [kv_cons, kv_nil, Int.ofNat_zero, List.drop_zero, hp_self] at g0
    cases c0 : chkPs ps == 0 with
    | false =>
      simp only [c0, sel_false] at g0
      simp (maxSteps := 3000000) (maxDischargeDepth := 6) +contextual -implicitDefEqProofs only [amC M, ↓amD, Nat.reduceBEq, Nat.reduceAdd, env, fargs, q_truchmanref01_Glue, List.length_map, q0, g0, gluV, d0, c0]
    | true =>
      simp only [c0, sel_true] at g0
      have g1 := fun k He => rg2 M hC (cut_refl H) (tg := tg) hn (fun p hp => (hps p hp).1) k (ps.length - 1) 0 He (by omega)
      simp only [kv_cons, kv_nil, (show (((0 + 1 : Nat)) : Int) = 1 from rfl), List.drop_zero, hp_self] at g1
      cases c1 : adjB ps with
      | false =>
        simp only [c1, sel_false] at g1
        simp (maxSteps := 3000000) (maxDischargeDepth := 6) +contextual -implicitDefEqProofs only [amC M, ↓amD, Nat.reduceBEq, Nat.reduceAdd, env, fargs, q_truchmanref01_Glue, List.length_map, q0, g0, g1, gluV, d0, c0, c1]
      | true =>
        simp only [c1, sel_true] at g1
        obtain ⟨G3, v, s1, s2, s3, s4, s5⟩ := rg4 M hC (H0 := H) (tgp := tg) hn (fun p hp => (hps p hp).1) ps.length 0 0 H (.slice .nil 3 []) [] (by omega) (.inl ⟨rfl, rfl⟩) (fun Q o n e r eq => (by cases eq)) (Nat.le_refl _) (fun _ _ => rfl) ⟨Nat.le_refl _, fun x hx => (by cases hx)⟩ (by rw [List.drop_zero]; omega)
        rw [List.drop_zero] at s2
        obtain ⟨hcut, htk⟩ := cut_low s4 s5
        generalize hcu : glueL ps.length 0 [] ps = cur at s2
        have hlv := fun G => lenPcV (G := G) s2
        simp only [kv_cons, kv_nil, Int.ofNat_zero] at s1
        have hbig : decide ((512 : Int) < ((cur.length : Nat) : Int)) = bigP cur := rfl
        have hde := deepE hcut 3 3
        rw [htk] at hde
        have hfz := handV_deep hcut (v := .tuple [v, .int .u8 0]) ⟨6, fz_tuple (mapO_cons (fz_pc s2 s3) (mapO_cons (fz_int _ _ _ _ _) (mapO_nil _)))⟩
        rw [htk] at hfz
        cases c2 : bigP cur with
        | true =>
          simp (maxSteps := 3000000) (maxDischargeDepth := 6) +contextual -implicitDefEqProofs only [amC M, ↓amD, Nat.reduceBEq, Nat.reduceAdd, env, fargs, q_truchmanref01_Glue, List.length_map, q0, g0, g1, gluV, d0, c0, c1, hcu, s1, hlv, hbig, c2, hde]
        | false =>
          simp (maxSteps := 3000000) (maxDischargeDepth := 6) +contextual -implicitDefEqProofs only [amC M, ↓amD, Nat.reduceBEq, Nat.reduceAdd, env, fargs, q_truchmanref01_Glue, List.length_map, q0, g0, g1, gluV, d0, c0, c1, hcu, s1, hlv, hbig, c2, hfz]
end Go.Am
end

section
set_option linter.unusedSimpArgs false
set_option linter.unusedVariables false
set_option maxRecDepth 100000
set_option maxHeartbeats 4000000
namespace Go.Am
open Go.RowKit
attribute [local congr] dsel_congr sel_c1 slc_cong gsel_congr go_congr aft_congr aftD_congr condR_congr backR_congr inR_congr at2_congr
variable {E : REnv} (M : Mach cdec E)

/-! DocsCuts -/
theorem szQ_eq : ∀ l : List Piece, szQ l = l.length + txtN l
  | [] => rfl
  | x :: l => by
    rw [szQ_cons, szQ_eq l, txtN, txtN, List.map_cons, List.sum_cons, List.length_cons]; omega
theorem szL_eq : ∀ ps : List (Sl Piece), szL ps = allN ps
  | [] => rfl
  | p :: ps => by
    rw [szL_cons, szL_eq ps, szQ_eq, allN, allN, List.map_cons, List.sum_cons]
theorem allN_mem {ps : List (Sl Piece)} {p : Sl Piece} (h : p ∈ ps) : p.l.length + txtN p.l ≤ allN ps := by
  induction ps with
  | nil => cases h
  | cons q ps ih =>
    rw [allN, List.map_cons, List.sum_cons]
    rcases List.mem_cons.1 h with rfl | h
    · omega
    · have := ih h; unfold allN at this; omega
theorem longF_all {ps : List (Sl Piece)} (h : longF ps = false) : allN ps ≤ 2500 := by
  have h1 : lngL 0 ps ≤ 2500 := by have := of_decide_eq_false h; omega
  have h2 := lngL_eq ps 0 h1
  omega
theorem big_mem {pl : List (List Piece)} (h : pl.any bigP = false) : ∀ p ∈ pl, p.length ≤ 512 := fun p hp => by
  have := List.any_eq_false.1 h p hp
  simp only [bigP, decide_eq_true_eq] at this; omega
theorem cuts_shape (l : List Piece) (pos : List Int) : ∃ (o : List (List Piece)) (e : Int) (ta tb : Tag), cutRV l pos = .tuple [.slice ta 1 (o.map plR), .int .u8 e] ∧ refRV l pos = .tuple [.slice tb 1 (o.map plR), .int .u8 e] ∧ ∀ p ∈ o, p.length ≤ 512 := by
  unfold cutRV refRV
  cases checkP l == 0 with
  | false => exact ⟨[], _, .any, .nil, rfl, rfl, fun p hp => by cases hp⟩
  | true =>
    rw [sel_true, sel_true]
    cases c1 : okA ((unL l).length : Int) none pos with
    | false => exact ⟨[], _, .any, .nil, rfl, rfl, fun p hp => by cases hp⟩
    | true =>
      rw [sel_true, sel_true, ← cut_same c1]
      cases c2 : (cutL l pos).any bigP with
      | true => exact ⟨[], _, .any, .nil, rfl, rfl, fun p hp => by cases hp⟩
      | false => exact ⟨cutL l pos, 0, .any, .any, rfl, rfl, big_mem c2⟩
theorem glu_shape (ps : List (Sl Piece)) : ∃ (g : List Piece) (e : Int) (ta : Tag), gluV ps = .tuple [.slice ta 3 (g.map Piece.row), .int .u8 e] ∧ g.length ≤ 512 := by
  unfold gluV
  cases decide (ps.length = 0) with
  | true => exact ⟨[], _, .nil, rfl, Nat.zero_le _⟩
  | false =>
    rw [sel_false]
    cases chkPs ps == 0 with
    | false => exact ⟨[], _, .nil, rfl, Nat.zero_le _⟩
    | true =>
      rw [sel_true]
      cases adjB ps with
      | false => exact ⟨[], _, .nil, rfl, Nat.zero_le _⟩
      | true =>
        rw [sel_true]
        cases c : bigP (glueL ps.length 0 [] ps) with
        | true => exact ⟨[], _, .nil, rfl, Nat.zero_le _⟩
        | false =>
          refine ⟨_, 0, _, rfl, ?_⟩
          unfold bigP at c
          have := of_decide_eq_false c; omega
theorem qPlR : (∀ p : List Piece, rload none (plR p) 0 = some (.slice (ptag p) 3 (p.map Piece.row))) := fun _ => rfl
theorem dcs (hB : BasE E) {o : List (List Piece)} (ho : o.length ≤ 1000000) (hp : ∀ p ∈ o, p.length ≤ 512) {ta tb : Tag} {pv : AV} {H H0 : List AObj} (k : List Fra) : ∀ (n i : Nat) (He : List AObj), i + n = o.length →
    M.go a_truchmanlaw01_DocsCuts H0 (.c l_truchmanlaw01_DocsCuts_0 :: .lp ⟨(some [2, 7, 9, 11]), [], false⟩ l_truchmanlaw01_DocsCuts_0 He :: .blk 0 :: .c (.lv [2]) :: k) (kv [(2, pv), (7, .slice ta 1 (o.map plR)), (9, .slice tb 1 (o.map plR)), (11, .int .i64 i)]) H = M.go a_truchmanlaw01_DocsCuts H0 k (kv [(2, pv)]) H
  | 0, i, He, h => by
    have e : i = o.length := by omega
    subst e
    rw [go_head M l_truchmanlaw01_DocsCuts_0.eq_1]
    simp (maxSteps := 3000000) (maxDischargeDepth := 6) +contextual -implicitDefEqProofs only [amC M, ↓amD, Nat.reduceBEq, Nat.reduceAdd, env, fargs, q_truchmanlaw01_DocsCuts, Nat.lt_irrefl, List.length_map]
  | n + 1, i, He, h => by
    have hi : i < o.length := by omega
    have hx : o[i]? = some o[i] := List.getElem?_eq_getElem hi
    have hwi := wrap_s (n := o.length) hi (by simp only [maxL]; omega)
    have ira := ias_row (row := plR) (tag := ta) (sz := 1) (k := .i64) hi
    have irb := ias_row (row := plR) (tag := tb) (sz := 1) (k := .i64) hi
    have h5 := hp _ (List.getElem_mem hi)
    have hs := fun H => run_SamePieces M hB (l := o[i]) (ta := ptag o[i]) (tb := ptag o[i]) (by simp only [maxL]; omega) H
    have ih := fun He => dcs hB ho hp (ta := ta) (tb := tb) (pv := pv) (H := H) (H0 := H0) k n (i + 1) He (by omega)
    simp only [kv_cons, kv_nil] at ih
    rw [go_head M l_truchmanlaw01_DocsCuts_0.eq_1]
    simp (maxSteps := 3000000) (maxDischargeDepth := 6) +contextual -implicitDefEqProofs only [amC M, ↓amD, Nat.reduceBEq, Nat.reduceAdd, env, fargs, q_truchmanlaw01_DocsCuts, hi, hx, hwi, ira, irb, qPlR, hs, ih, Bool.not_true, List.length_map]
theorem cut_cnt (hop : True) {l : List Piece} {pos : List Int} {o : List (List Piece)} {e : Int} {ta : Tag} (h : cutRV l pos = .tuple [.slice ta 1 (o.map plR), .int .u8 e]) (hsz : l.length + txtN l ≤ 2600) : o.length ≤ 1000000 := by
  have b0 : CBm 0 ⟨[], [], pos, 0, false, []⟩ := ⟨Nat.le_refl _, fun s hs => (by cases hs), Nat.le_refl _, Nat.le_refl _, fun x hx => (by cases hx), Nat.le_refl _⟩
  have hb := (cuts_bm l b0).done
  rw [sumP_eq] at hb
  have hc : (cutL l pos).length ≤ 1000000 := by
    unfold cutL cutS; rw [List.length_append, List.length_singleton]; omega
  have key : ∀ {x : List (List AV)} {z : Int}, AV.tuple [.slice .any 1 x, .int .u8 z] = .tuple [.slice ta 1 (o.map plR), .int .u8 e] → x.length ≤ 1000000 → o.length ≤ 1000000 := fun hh hx => by
    injection hh with hh
    injection hh with hh _
    injection hh with _ _ hh
    rw [hh, List.length_map] at hx
    exact hx
  unfold cutRV at h
  cases c0 : checkP l == 0 with
  | false => rw [c0, sel_false] at h; exact key h (Nat.zero_le _)
  | true =>
    rw [c0, sel_true] at h
    cases c1 : okA ((unL l).length : Int) none pos with
    | false => rw [c1, sel_false] at h; exact key h (Nat.zero_le _)
    | true =>
      rw [c1, sel_true] at h
      cases c2 : (cutL l pos).any bigP with
      | true => rw [c2, sel_true] at h; exact key h (Nat.zero_le _)
      | false => rw [c2, sel_false] at h; exact key h (by rw [List.length_map]; exact hc)
theorem run_DocsCuts (hB : BasE E) (hX : ExtD M) (hU : BrkE E) (hN : UntE E) (hC : CutE E) {l : Sl Piece} (hl : l.ok 0 (Piece.ok 0)) {pos : Sl Int} (hpos : pos.ok 0 I64 ∧ (pos.tag = .nil ∧ pos.l = [] ∨ pos.tag = .some)) {ps : Sl (Sl Piece)} (hps : ps.ok 0 (fun p => p.ok 0 (Piece.ok 0))) {H : List AObj}
    (hL : ∀ H, M.run f_truchmanlaw01_reads [] H = some (.ret (.bool true), H)) : M.run f_truchmanlaw01_DocsCuts [.slice l.tag 3 (l.l.map Piece.row), .slice pos.tag 1 (pos.l.map intRow), .slice ps.tag 1 (ps.l.map plRow)] H = some (.ret (.bool true), H) := by
  have s2 := fun H => run_long1 M hB hl H
  have okl : ∀ p ∈ ps.l, p.l.length ≤ maxL ∧ ∀ x ∈ p.l, x.text.length ≤ maxL := fun p hp => ⟨(hps.all p hp).len, fun x hx => ((hps.all p hp).all x hx).text⟩
  rw [run_c M hC.truchmanlaw01_DocsCuts rfl (c := c_truchmanlaw01_DocsCuts) rfl, c_truchmanlaw01_DocsCuts]
  cases c1 : longF [l] with
  | true => simp (maxSteps := 3000000) (maxDischargeDepth := 6) +contextual -implicitDefEqProofs only [amC M, ↓amD, Nat.reduceBEq, Nat.reduceAdd, env, fargs, q_truchmanlaw01_DocsCuts, amG, AV.cell, Nat.reduceMul, Nat.reduceLeDiff, s2, strip_slice, c1, hL]
  | false =>
  cases c2 : decide ((30 : Int) < (pos.l.length : Int)) with
  | true => simp (maxSteps := 3000000) (maxDischargeDepth := 6) +contextual -implicitDefEqProofs only [amC M, ↓amD, Nat.reduceBEq, Nat.reduceAdd, env, fargs, q_truchmanlaw01_DocsCuts, amG, AV.cell, Nat.reduceMul, Nat.reduceLeDiff, s2, strip_slice, c1, List.length_map, c2, hL]
  | false =>
  cases c3 : decide ((30 : Int) < (ps.l.length : Int)) with
  | true => simp (maxSteps := 3000000) (maxDischargeDepth := 6) +contextual -implicitDefEqProofs only [amC M, ↓amD, Nat.reduceBEq, Nat.reduceAdd, env, fargs, q_truchmanlaw01_DocsCuts, amG, AV.cell, Nat.reduceMul, Nat.reduceLeDiff, s2, strip_slice, c1, List.length_map, c2, c3, hL]
  | false =>
  have n2 : pos.l.length ≤ 30 := by have := of_decide_eq_false c2; omega
  have n3 : ps.l.length ≤ 30 := by have := of_decide_eq_false c3; omega
  have s3 := fun H => run_long M hB (ps := ps.l) (tg := ps.tag) (by omega) okl H
  cases c4 : longF ps.l with
  | true => simp (maxSteps := 3000000) (maxDischargeDepth := 6) +contextual -implicitDefEqProofs only [amC M, ↓amD, Nat.reduceBEq, Nat.reduceAdd, env, fargs, q_truchmanlaw01_DocsCuts, amG, AV.cell, Nat.reduceMul, Nat.reduceLeDiff, s2, s3, strip_slice, c1, List.length_map, c2, c3, c4, hL]
  | false =>
  have hlong := longF_one c1
  have hall := longF_all c4
  have hpp : ∀ p ∈ ps.l, p.l.length ≤ 1000000 ∧ TxtOk p.l := fun p hp => by
    have h1 := allN_mem hp
    exact ⟨by omega, fun x hx => by have := txtN_mem hx; omega⟩
  have hta : pos.tag = .any ∨ pos.tag = .some ∨ pos.l = [] := by
    rcases hpos.2 with h | h
    · exact .inr (.inr h.2)
    · exact .inr (.inl h)
  have k1 := fun H => run_dCut M hB hX hU hN hC (l := l) (pos := pos.l) (ta := pos.tag) (by omega) (by omega) hta H
  have k2 := fun H => run_rCut M hB hU hC (l := l) (pos := pos.l) (ta := pos.tag) (by omega) (by omega) H
  obtain ⟨o, e, ta, tb, v1, v2, ho⟩ := cuts_shape l.l pos.l
  have hcn := cut_cnt trivial v1 (by omega)
  rw [v1] at k1
  rw [v2] at k2
  have g1 := fun H => run_dGlue M hB hX hC (ps := ps.l) (tg := ps.tag) (by omega) hpp (by rw [szL_eq]; omega) H
  have g2 := fun H => run_rGlue M hB hC (ps := ps.l) (tg := ps.tag) (by omega) hpp (by rw [szL_eq]; omega) H
  obtain ⟨g, e2, tg, v3, hg⟩ := glu_shape ps.l
  rw [v3] at g1 g2
  have sp := fun H => run_SamePieces M hB (l := g) (ta := tg) (tb := tg) (by simp only [maxL]; omega) H
  have lp := fun k He => dcs M hB hcn ho (ta := ta) (tb := tb) (pv := .slice ps.tag 1 (ps.l.map plRow)) (H := H) (H0 := H) k o.length 0 He (by omega)
  simp only [kv_cons, kv_nil, Int.ofNat_zero] at lp
  simp (maxSteps := 3000000) (maxDischargeDepth := 6) +contextual -implicitDefEqProofs only [amC M, ↓amD, Nat.reduceBEq, Nat.reduceAdd, env, fargs, q_truchmanlaw01_DocsCuts, amG, AV.cell, Nat.reduceMul, Nat.reduceLeDiff, s2, s3, strip_slice, c1, List.length_map, c2, c3, c4, k1, k2, g1, g2, sp, lp, hL, aextract, List.getElem?_cons_zero, List.getElem?_cons_succ, beq_self_eq_true, Bool.not_true]
end Go.Am
end

section
set_option maxRecDepth 100000
set_option linter.unusedVariables false
namespace Go.Am
open Go.RowKit Go.ChangeShapes Go.WideShapes

structure TypesOk (P : Program) : Prop where
  u_api_PieceKind : P.underlying t_api_PieceKind = some (.int .u8)
  c_api_PieceKind : P.cellsOf t_api_PieceKind = 1
  u_string : P.underlying t_string = some .string
  c_string : P.cellsOf t_string = 1
  u_bool : P.underlying t_bool = some .bool
  c_bool : P.cellsOf t_bool = 1
  f_Piece : fieldsOf P t_api_Piece = some [(0, t_api_PieceKind), (1, t_string), (2, t_bool)]
  c_Piece : P.cellsOf t_api_Piece = 3
  u_sl_Piece : P.underlying t_sl_api_Piece = some (.slice t_api_Piece)
  c_sl_Piece : P.cellsOf t_sl_api_Piece = 1
  y_Piece : Nat.blt 0 (P.bytesOf t_api_Piece) = true
  u_int : P.underlying t_int = some (.int .i64)
  c_int : P.cellsOf t_int = 1
  u_sl_int : P.underlying t_sl_int = some (.slice t_int)
  c_sl_int : P.cellsOf t_sl_int = 1
  y_int : Nat.blt 0 (P.bytesOf t_int) = true
  u_sl_sl_Piece : P.underlying t_sl_sl_api_Piece = some (.slice t_sl_api_Piece)
  y_sl_Piece : Nat.blt 0 (P.bytesOf t_sl_api_Piece) = true
section
variable {P : Program} {W : World} {G : Nat → Option (List AV)}
theorem open_Piece (h : TypesOk P) : Opens P W G t_api_Piece Piece.row (Piece.ok 0) :=
  opens_struct h.f_Piece h.c_Piece (opensF_cons (opens_k h.u_api_PieceKind) h.c_api_PieceKind (opensF_cons (opens_str h.u_string) h.c_string (opensF_cons (opens_bool h.u_bool) h.c_bool (opensF_nil _)))) (fun a => ⟨a.1, a.2.1, a.2.2.1⟩) (fun a => rfl) (fun a ha => ⟨ha.2.1⟩)
theorem open_sl_Piece (h : TypesOk P) : Opens P W G t_sl_api_Piece (fun s : Sl Piece => [.slice s.tag 3 (s.l.map Piece.row)]) (fun s => s.ok 0 (Piece.ok 0)) :=
  opens_slice h.u_sl_Piece h.c_Piece (by decide) (blt_pos h.y_Piece) (fun _ => by simp only [qPiece]) (open_Piece h)
theorem open_sl_sl_Piece (h : TypesOk P) : Opens P W G t_sl_sl_api_Piece (fun s : Sl (Sl Piece) => [.slice s.tag 1 (s.l.map fun p : Sl Piece => [.slice p.tag 3 (p.l.map Piece.row)])]) (fun s => s.ok 0 fun p => p.ok 0 (Piece.ok 0)) :=
  opens_slice h.u_sl_sl_Piece h.c_sl_Piece (by decide) (blt_pos h.y_sl_Piece) (fun _ => rfl) (open_sl_Piece h)
end
end Go.Am
end

section
set_option maxRecDepth 1000000
set_option linter.unusedVariables false
namespace Go.Am
open Go.Shelf Go.RowKit Go.Lib Go.Proofs

def utfLay_ren : Go.Shelf.Ren := ⟨fun | 197 => 110 | 260 => 148 | n => n, fun | 9 => 9 | 21 => 21 | 3 => 3 | 4 => 4 | 5 => 5 | 105 => 169 | 119 => 226 | 0 => 0 | 46 => 227 | 139 => 230 | 138 => 229 | n => n, fun | 3 => 0 | 4 => 1 | n => n⟩
theorem utfLay : Go.Proofs.Lays.n197 Tryz.prog utfLay_ren where
  mixed := by kernel_rfl
  f197 := Tryz.func110.trans (congrArg some (by kernel_rfl))
  f260 := Tryz.func148.trans (congrArg some (by kernel_rfl))
  t0 := Tryz.underlying0
  a0 := Tryz.isAgg0
  z0 := Tryz.sizeOf0
  v0 := Tryz.zeroValue0
  t3 := Tryz.underlying3
  a3 := Tryz.isAgg3
  z3 := Tryz.sizeOf3
  v3 := Tryz.zeroValue3
  t4 := Tryz.underlying4
  a4 := Tryz.isAgg4
  z4 := Tryz.sizeOf4
  v4 := Tryz.zeroValue4
  t5 := Tryz.underlying5
  a5 := Tryz.isAgg5
  z5 := Tryz.sizeOf5
  v5 := Tryz.zeroValue5
  t9 := Tryz.underlying9
  a9 := Tryz.isAgg9
  z9 := Tryz.sizeOf9
  v9 := Tryz.zeroValue9
  t21 := Tryz.underlying21
  a21 := Tryz.isAgg21
  z21 := Tryz.sizeOf21
  v21 := Tryz.zeroValue21
  t46 := Tryz.underlying227
  a46 := Tryz.isAgg227
  z46 := Tryz.sizeOf227
  v46 := Tryz.zeroValue227
  t105 := Tryz.underlying169
  a105 := Tryz.isAgg169
  z105 := Tryz.sizeOf169
  v105 := Tryz.zeroValue169
  t119 := Tryz.underlying226
  a119 := Tryz.isAgg226
  z119 := Tryz.sizeOf226
  t138 := Tryz.underlying229
  a138 := Tryz.isAgg229
  z138 := Tryz.sizeOf229
  v138 := Tryz.zeroValue229
  t139 := Tryz.underlying230
  a139 := Tryz.isAgg230
  z139 := Tryz.sizeOf230
  v139 := Tryz.zeroValue230
  g3 := by kernel_rfl
  g4 := by kernel_rfl

theorem dec_enters : ∀ args w, (callFunc 110 args).run Tryz.prog w = .ok (.enter 110 args) w := enters_of Tryz.func110 (by kernel_rfl) rfl
theorem dec_calls : ∀ (s : ByteArray) (w : World), Lib.Utf8Tabs 0 1 w → Calls Tryz.prog 110 #[.string s] w fun e w' => e = .returned (.tuple #[.int .i32 (Lib.decodeGo s).1, .int .i64 (Lib.decodeGo s).2]) ∧ Below w.heap.size w w' := fun s w hT => Any.utf8_DecodeRuneInString utfLay s w hT
theorem tabs_laid {W : World} (h3 : VarReads Tryz.prog W "unicode/utf8.first" firstData) (h4 : VarReads Tryz.prog W "unicode/utf8.acceptRanges" acceptData) : Lib.Utf8Tabs 0 1 W :=
  utf8Tabs_of_readsT (ρ := utfLay_ren) { utfLay with } ⟨by kernel_rfl, by kernel_rfl, by kernel_rfl, by kernel_rfl, by kernel_rfl, by kernel_rfl, by kernel_rfl⟩ h3 h4

end Go.Am
end

section
set_option maxRecDepth 1000000
namespace Go.Am
open Go.RowKit Go.Proofs

def ntabL0 : List (Nat × AFn) := [(5, a_truchmanlaw01_DocsCuts), (10, a_truchmanlaw01_long), (13, a_docs_Units), (14, a_truchmanref01_Units), (22, a_truchmanref01_CheckPieces), (23, a_docs_Cut), (24, a_truchmanref01_Cut), (25, a_truchmanref01_SamePieces), (26, a_docs_Glue), (27, a_truchmanref01_Glue), (44, a_docs_CheckPieces), (45, a_slices_Collect_docs_unit)]
theorem ntabO0 : AllOk (CompOk Tryz.prog G0) ntabL0 := by repeat' first | (unfold CompOk; kernel_rfl) | exact trivial | refine ⟨?_, ?_⟩
def ntabL1 : List (Nat × AFn) := [(46, a_docs_units), (47, a_truchmanref01_units), (50, a_truchmanref01_Text), (56, a_truchmanref01_alone), (57, a_truchmanref01_carried), (58, a_docs_cut), (59, a_truchmanref01_single), (60, a_truchmanref01_add), (61, a_docs_ends), (62, a_slices_Reverse_string_string), (63, a_slices_Equal_string_string), (64, a_docs_cutter_put)]
theorem ntabO1 : AllOk (CompOk Tryz.prog G0) ntabL1 := by repeat' first | (unfold CompOk; kernel_rfl) | exact trivial | refine ⟨?_, ?_⟩
def ntabL2 : List (Nat × AFn) := [(65, a_truchmanref01_ends), (75, a_docs_isText), (88, a_docs_carried_takes), (90, a_docs_isName), (91, a_docs_stack_string_pop), (92, a_docs_stack_string_push), (93, a_slices_AppendSeq_docs_unit_docs_unit), (94, a_docs_units_1), (100, a_truchmanref01_Name), (101, a_docs_cutter_unit), (102, a_docs_cutter_tag), (103, a_slices_ContainsFunc_api_Piece_api_Piece)]
theorem ntabO2 : AllOk (CompOk Tryz.prog G0) ntabL2 := by repeat' first | (unfold CompOk; kernel_rfl) | exact trivial | refine ⟨?_, ?_⟩
def ntabL3 : List (Nat × AFn) := [(104, a_docs_cut_1), (142, a_docs_cutter_turn), (143, a_slices_IndexFunc_api_Piece_api_Piece)]
theorem ntabO3 : AllOk (CompOk Tryz.prog G0) ntabL3 := by repeat' first | (unfold CompOk; kernel_rfl) | exact trivial | refine ⟨?_, ?_⟩
def ntabLs : List (Nat × List (Nat × AFn)) := [(45, ntabL0), (64, ntabL1), (103, ntabL2), (143, ntabL3)]
def ntab (f : FuncId) : Option AFn := look2 ntabLs f
theorem ntab_ok : ∀ f af, ntab f = some af → CompOk Tryz.prog G0 f af := fun f af h => look2_ok (show AllOk2 _ ntabLs from ⟨ntabO0, ntabO1, ntabO2, ntabO3, trivial⟩) h

/-- The examples: run alone; runes: by the kit's contract. -/
def dorc (f : FuncId) (args : List AV) (H : List AObj) : Option Out :=
  match args with
  | [] => bif Nat.beq f f_truchmanlaw01_reads then some (.ret (.bool true), H) else none
  | [.str s] => bif Nat.beq f f_unicode_utf8_DecodeRuneInString then some (.ret (.tuple [.int .i32 ((decO s).1 : Nat), .int .i64 ((decO s).2 : Nat)]), H) else none
  | _ => xorc f args H
theorem dorc_ok {f : FuncId} {args : List AV} {H H' : List AObj} {r : ARes} (h : dorc f args H = some (r, H')) : ACalls Tryz.prog G0 f args H fun r2 H2 => r2 = r ∧ H2 = H' := by
  unfold dorc at h
  split at h
  · cases h1 : Nat.beq f f_truchmanlaw01_reads with
    | true => rw [h1] at h; cases h; rw [Nat.eq_of_beq_eq_true h1]; exact lives_ok H
    | false => rw [h1] at h; cases h
  · rename_i s
    cases h1 : Nat.beq f f_unicode_utf8_DecodeRuneInString with
    | true => rw [h1] at h; cases h; rw [Nat.eq_of_beq_eq_true h1]; exact ext_dec rfl dec_enters dec_calls s H
    | false => rw [h1] at h; cases h
  · exact xorc_ok h

noncomputable def EN : REnv := { P := Tryz.prog, G := G0, fn := ntab, orc := dorc, dfn := fun _ => none, seq := seq0, sar := fun _ => 1 }
theorem EN_ok : EN.Ok := ⟨x_mixed, fun f af h => ntab_ok f af h, (fun _ _ _ h => by cases h), (fun _ _ _ _ _ h => by cases h), fun _ _ _ _ _ h => dorc_ok h, (fun _ _ _ h => by cases h), seq0_ok⟩

end Go.Am
end

