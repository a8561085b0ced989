import Derived.Test.YtaomolffnolpdaaGreatDoorA5
import Derived.Test.YtaomolffnolpdaaGreatDoorChecked
import Derived.Shelf.Unicode.DecodeAny
import Derived.Lib.LaidU8T
import Derived.KernelRfl
/-
  Part 6 of the tool: an abstract machine over the model, proved sound, and what it says of the functions that the law reaches. Condition: none but those that each theorem names.
-/
set_option linter.unusedVariables false
set_option linter.unusedSimpArgs false
section
set_option linter.unusedSimpArgs false
set_option linter.unusedVariables false
set_option maxRecDepth 100000
set_option maxHeartbeats 4000000
namespace Go.Am
open Go.RowKit
attribute [local congr] dsel_congr sel_c1 slc_cong gsel_congr go_congr aft_congr aftD_congr condR_congr backR_congr inR_congr at2_congr
variable {E : REnv} (M : Mach cdec E)

/-! DocsFits: the walk -/
theorem pctS_cons (c : UInt8) (t : Str) : pctS (c :: t) = ((c.toNat == 37) || pctS t) := rfl
theorem i37 (c : UInt8) : (((c.toNat : Nat) : Int) == 37) = (c.toNat == 37) := by
  rw [Bool.eq_iff_iff]; simp only [beq_iff_eq]; omega
theorem lf0 {H H0 : List AObj} {l : Sl Piece} {x : Piece} {j : Nat} (hxj : l.l[j]? = some x) (hj : j < l.l.length) (hxl : x.text.length ≤ maxL) {v0 v5 v7 v9 : AV} (hc : CutOk H0 H) (k : List Fra) : ∀ (n i : Nat) (b : Bool) (He : List AObj), i + n = (x.text).length →
    M.go a_truchmanlaw01_DocsFits H0 (.c l_truchmanlaw01_DocsFits_0 :: .lp ⟨(some [0, 1, 5, 7, 9, 11, 12, 13]), [], false⟩ l_truchmanlaw01_DocsFits_0 He :: .blk 2 :: .c (.lv [0, 1, 5, 7, 9, 11, 12]) :: k) (kv [(0, v0), (1, .slice l.tag 3 (l.l.map Piece.row)), (5, v5), (7, v7), (9, v9), (11, .bool b), (12, .int .i64 j), (13, .int .i64 i)]) H =
      (M.go a_truchmanlaw01_DocsFits H0 k (kv [(0, v0), (1, .slice l.tag 3 (l.l.map Piece.row)), (5, v5), (7, v7), (9, v9), (11, .bool (b || ((x.kind == 1) && pctS (x.text.drop i)))), (12, .int .i64 j)]) (H))
  | 0, i, b, He, h => by
    have e : i = (x.text).length := by omega
    subst e
    rw [go_head M l_truchmanlaw01_DocsFits_0.eq_1]
    simp (maxSteps := 3000000) (maxDischargeDepth := 6) +contextual -implicitDefEqProofs only [amC M, ↓amD, Nat.reduceBEq, Nat.reduceAdd, env, fargs, q_truchmanlaw01_DocsFits, Nat.lt_irrefl, List.drop_length, hxj, ias_row hj, qPiece, (show pctS [] = false from rfl), Bool.and_false, Bool.or_false]
  | n + 1, i, b, He, h => by
    have hi : i < (x.text).length := by omega
    have hx : (x.text)[i]? = some (x.text)[i] := List.getElem?_eq_getElem hi
    have hd : ((x.text).drop i) = (x.text)[i] :: (x.text).drop (i + 1) := List.drop_eq_getElem_cons hi
    have hm : (x.text)[i] ∈ (x.text) := List.getElem_mem hi
    have ih := fun b He => lf0 (H := H) (H0 := H0) (l := l) (x := x) (j := j) (hxj := hxj) (hj := hj) (hxl := hxl) (v0 := v0) (v5 := v5) (v7 := v7) (v9 := v9) hc k n (i + 1) b He (by omega)
    simp only [kv_cons, kv_nil] at ih
    have hij := ias_row (row := Piece.row) (tag := l.tag) (sz := 3) (k := .i64) hj
    have hwi := wrap_s (n := x.text.length) hi hxl
    have hix := rixs_nat (k := .i64) hx
    have hcc := i37 x.text[i]
    rw [hd, pctS_cons]
    cases hk : x.kind == 1 with
    | false =>
      have ih := ih b
      simp only [hk, Bool.false_and, Bool.or_false] at ih ⊢
      cases b <;> (rw [go_head M l_truchmanlaw01_DocsFits_0.eq_1]) <;> simp (maxSteps := 3000000) (maxDischargeDepth := 6) +contextual -implicitDefEqProofs only [amC M, ↓amD, Nat.reduceBEq, Nat.reduceAdd, env, fargs, q_truchmanlaw01_DocsFits, hi, hxj, hij, hwi, hk, qPiece, ih]
    | true =>
      cases b with
      | true =>
        have ih := ih true
        simp only [hk, Bool.true_or, Bool.true_and] at ih ⊢
        rw [go_head M l_truchmanlaw01_DocsFits_0.eq_1]
        simp (maxSteps := 3000000) (maxDischargeDepth := 6) +contextual -implicitDefEqProofs only [amC M, ↓amD, Nat.reduceBEq, Nat.reduceAdd, env, fargs, q_truchmanlaw01_DocsFits, hi, hxj, hij, hwi, hk, qPiece, ih]
      | false =>
        have ih := ih (x.text[i].toNat == 37)
        simp only [hk, Bool.false_or, Bool.true_and] at ih ⊢
        rw [go_head M l_truchmanlaw01_DocsFits_0.eq_1]
        simp (maxSteps := 3000000) (maxDischargeDepth := 6) +contextual -implicitDefEqProofs only [amC M, ↓amD, Nat.reduceBEq, Nat.reduceAdd, env, fargs, q_truchmanlaw01_DocsFits, hi, hxj, hij, hwi, hk, qPiece, hx, (show ∀ c : UInt8, byteO (some c) = some (.int .u8 c.toNat) from fun _ => rfl), hcc, ih]
theorem lf1 {H H0 : List AObj} {l : Sl Piece} (hl : l.ok 0 (Piece.ok 0)) {v0 v5 v7 v9 : AV} (hc : CutOk H0 H) (k : List Fra) : ∀ (n i : Nat) (b : Bool) (He : List AObj), i + n = (l.l).length →
    M.go a_truchmanlaw01_DocsFits H0 (.c l_truchmanlaw01_DocsFits_1 :: .lp ⟨(some [0, 1, 5, 7, 9, 11, 12]), [], false⟩ l_truchmanlaw01_DocsFits_1 He :: .blk 0 :: .c (.lv [0, 1, 5, 7, 9, 11]) :: k) (kv [(0, v0), (1, .slice l.tag 3 (l.l.map Piece.row)), (5, v5), (7, v7), (9, v9), (11, .bool b), (12, .int .i64 i)]) H =
      (M.go a_truchmanlaw01_DocsFits H0 k (kv [(0, v0), (1, .slice l.tag 3 (l.l.map Piece.row)), (5, v5), (7, v7), (9, v9), (11, .bool (b || (l.l.drop i).any seenP))]) (H))
  | 0, i, b, He, h => by
    have e : i = (l.l).length := by omega
    subst e
    rw [go_head M l_truchmanlaw01_DocsFits_1.eq_1]
    simp (maxSteps := 3000000) (maxDischargeDepth := 6) +contextual -implicitDefEqProofs only [amC M, ↓amD, Nat.reduceBEq, Nat.reduceAdd, env, fargs, q_truchmanlaw01_DocsFits, Nat.lt_irrefl, List.drop_length, List.any_nil, Bool.or_false]
  | n + 1, i, b, He, h => by
    have hi : i < (l.l).length := by omega
    have hx : (l.l)[i]? = some (l.l)[i] := List.getElem?_eq_getElem hi
    have hd : ((l.l).drop i) = (l.l)[i] :: (l.l).drop (i + 1) := List.drop_eq_getElem_cons hi
    have hm : (l.l)[i] ∈ (l.l) := List.getElem_mem hi
    have ih := fun b He => lf1 (H := H) (H0 := H0) (l := l) (hl := hl) (v0 := v0) (v5 := v5) (v7 := v7) (v9 := v9) hc k n (i + 1) b He (by omega)
    simp only [kv_cons, kv_nil] at ih
    have hwi := wrap_s (n := l.l.length) hi hl.len
    have hz := fun k He => lf0 M (H := H) (H0 := H0) (l := l) (x := l.l[i]) (j := i) hx hi (hl.all _ hm).text (v0 := v0) (v5 := v5) (v7 := v7) (v9 := v9) hc k l.l[i].text.length 0 b He (by omega)
    have ih := ih (b || seenP l.l[i])
    simp only [kv_cons, kv_nil, Int.ofNat_zero, List.drop_zero] at hz
    rw [hd, List.any_cons, ← Bool.or_assoc]
    rw [go_head M l_truchmanlaw01_DocsFits_1.eq_1]
    simp (maxSteps := 3000000) (maxDischargeDepth := 6) +contextual -implicitDefEqProofs only [amC M, ↓amD, Nat.reduceBEq, Nat.reduceAdd, env, fargs, q_truchmanlaw01_DocsFits, hi, hwi, hz]
    exact ih _
theorem lf2 {H H0 : List AObj} {L : List Int} (hLl : L.length ≤ 1000000) (hL : ∀ (i : Nat) (x : Int), L[i]? = some x → x = ((i + 1 : Nat) : Int)) {v5 v9 : AV} (hc : CutOk H0 H) (k : List Fra) : ∀ (n i : Nat) (He : List AObj), i + n = L.length →
    M.go a_truchmanlaw01_DocsFits H0 (.c l_truchmanlaw01_DocsFits_2 :: .lp ⟨(some [5, 9, 14, 16]), [], false⟩ l_truchmanlaw01_DocsFits_2 He :: .blk 4 :: .c (.lv [5, 9]) :: k) (kv [(5, v5), (9, v9), (14, .slice .any 1 (L.map intRow)), (16, .int .i64 i)]) H =
      (M.go a_truchmanlaw01_DocsFits H0 k (kv [(5, v5), (9, v9)]) (H))
  | 0, i, He, h => by
    have e : i = L.length := by omega
    subst e
    rw [go_head M l_truchmanlaw01_DocsFits_2.eq_1]
    simp (maxSteps := 3000000) (maxDischargeDepth := 6) +contextual -implicitDefEqProofs only [amC M, ↓amD, Nat.reduceBEq, Nat.reduceAdd, env, fargs, q_truchmanlaw01_DocsFits, Nat.lt_irrefl, List.drop_length]
  | n + 1, i, He, h => by
    have hi : i < L.length := by omega
    have hx : L[i]? = some L[i] := List.getElem?_eq_getElem hi
    have hd : (L.drop i) = L[i] :: L.drop (i + 1) := List.drop_eq_getElem_cons hi
    have hm : L[i] ∈ L := List.getElem_mem hi
    have ih := fun He => lf2 (H := H) (H0 := H0) (L := L) (hLl := hLl) (hL := hL) (v5 := v5) (v9 := v9) hc k n (i + 1)  He (by omega)
    simp only [kv_cons, kv_nil] at ih
    have hwi := wrap_s (n := L.length) hi (by simp only [maxL]; omega)
    have hir := ias_row (row := intRow) (tag := .any) (sz := 1) (k := .i64) hi
    have he := hL i _ hx
    rw [he] at hx
    rw [go_head M l_truchmanlaw01_DocsFits_2.eq_1]
    simp (maxSteps := 3000000) (maxDischargeDepth := 6) +contextual -implicitDefEqProofs only [amC M, ↓amD, Nat.reduceBEq, Nat.reduceAdd, env, fargs, q_truchmanlaw01_DocsFits, hi, hx, hwi, hir, qIntR, ih, beq_self_eq_true]
theorem lf3 {H H0 : List AObj} {L : List Int} (hLl : L.length ≤ 1000000) {n2 : Nat} (hn2 : n2 ≤ 1000000) (hL : ∀ x ∈ L, 1 ≤ x ∧ x ≤ (n2 : Int) - 1) (hI : ∀ (i : Nat) (x y : Int), L[i]? = some x → L[i + 1]? = some y → x < y) (hc : CutOk H0 H) (k : List Fra) : ∀ (n i : Nat) (He : List AObj), i + n = L.length →
    M.go a_truchmanlaw01_DocsFits H0 (.c l_truchmanlaw01_DocsFits_3 :: .lp ⟨(some [5, 9, 17]), [], false⟩ l_truchmanlaw01_DocsFits_3 He :: .blk 6 :: .c (.lv []) :: k) (kv [(5, .slice .any 1 (L.map intRow)), (9, .int .i64 n2), (17, .int .i64 i)]) H =
      (M.go a_truchmanlaw01_DocsFits H0 k .leaf (H))
  | 0, i, He, h => by
    have e : i = L.length := by omega
    subst e
    rw [go_head M l_truchmanlaw01_DocsFits_3.eq_1]
    simp (maxSteps := 3000000) (maxDischargeDepth := 6) +contextual -implicitDefEqProofs only [amC M, ↓amD, Nat.reduceBEq, Nat.reduceAdd, env, fargs, q_truchmanlaw01_DocsFits, Nat.lt_irrefl, List.drop_length]
  | n + 1, i, He, h => by
    have hi : i < L.length := by omega
    have hx : L[i]? = some L[i] := List.getElem?_eq_getElem hi
    have hd : (L.drop i) = L[i] :: L.drop (i + 1) := List.drop_eq_getElem_cons hi
    have hm : L[i] ∈ L := List.getElem_mem hi
    have ih := fun He => lf3 (H := H) (H0 := H0) (L := L) (hLl := hLl) (n2 := n2) (hn2 := hn2) (hL := hL) (hI := hI) hc k n (i + 1)  He (by omega)
    simp only [kv_cons, kv_nil] at ih
    have hwi := wrap_s (n := L.length) hi (by simp only [maxL]; omega)
    have hir := ias_row (row := intRow) (tag := .any) (sz := 1) (k := .i64) hi
    have hr := hL _ hm
    have d1 : decide (L[i] < 1) = false := decide_eq_false (by omega)
    have d2 : decide ((n2 : Int) - 1 < L[i]) = false := decide_eq_false (by omega)
    have hw1 : IntKind.i64.wrap ((n2 : Int) - 1) = (n2 : Int) - 1 := wrap_i64 (by omega) (by omega)
    cases i with
    | zero =>
      have d3 : decide ((0 : Int) < ((0 : Nat) : Int)) = false := rfl
      rw [go_head M l_truchmanlaw01_DocsFits_3.eq_1]
      simp (maxSteps := 3000000) (maxDischargeDepth := 6) +contextual -implicitDefEqProofs only [amC M, ↓amD, Nat.reduceBEq, Nat.reduceAdd, env, fargs, q_truchmanlaw01_DocsFits, hi, hx, hwi, hir, hw1, qIntR, ih, d1, d2, d3]
    | succ i =>
      have hi0 : i < L.length := by omega
      have hx0 : L[i]? = some L[i] := List.getElem?_eq_getElem hi0
      have hir0 := ias_row (row := intRow) (tag := .any) (sz := 1) (k := .i64) hi0
      have hlt := hI i _ _ hx0 hx
      have d3 : decide ((0 : Int) < ((i + 1 : Nat) : Int)) = true := decide_eq_true (by omega)
      have d4 : decide (L[i + 1] ≤ L[i]) = false := decide_eq_false (by omega)
      have hw3 : IntKind.i64.wrap (((i + 1 : Nat) : Int) - 1) = (i : Int) := by rw [wrap_i64 (by omega) (by omega)]; omega
      rw [go_head M l_truchmanlaw01_DocsFits_3.eq_1]
      simp (maxSteps := 3000000) (maxDischargeDepth := 6) +contextual -implicitDefEqProofs only [amC M, ↓amD, Nat.reduceBEq, Nat.reduceAdd, env, fargs, q_truchmanlaw01_DocsFits, hi, hx, hx0, hwi, hir, hir0, hw1, hw3, qIntR, ih, d1, d2, d3, d4]
theorem ap_rules {rs : Sl Brk} (hl : rs.l.length ≤ 64) (x : Brk) (H : List AObj) : ∃ tg X, rap false H t_api_Break 3 40 false (.slice .full 3 [Brk.row x]) (.slice rs.tag 3 (rs.l.map Brk.row)) = some (.slice tg 3 ((x :: rs.l).map Brk.row), H ++ X) ∧ tagLt (H ++ X).length tg := by
  cases hr : rs.l with
  | nil =>
    refine ⟨.full, [], ?_, trivial⟩
    simp [rap, rapp, rsrc, rowsOk]
  | cons y l =>
    refine ⟨.own H.length, [.tok ((1 + (y :: l).length) * 3) t_api_Break], ?_, by simp [tagLt]⟩
    have h1 : rowsOk 3 ((y :: l).map Brk.row) = true := by
      unfold rowsOk
      rw [List.all_eq_true]
      intro r hr
      obtain ⟨z, _, rfl⟩ := List.mem_map.1 hr
      rfl
    have h2 : ((y :: l).map Brk.row).map (·.map AV.strip) = (y :: l).map Brk.row := by
      rw [List.map_map]; rfl
    rw [hr] at hl
    simp only [rap, rapp, rsrc, or_true, if_true, h1, and_true, List.length_map, List.length_singleton]
    have hl3 : l.length + 1 ≤ 64 := by simpa using hl
    rw [if_pos (show True ∧ (1 + (y :: l).length) * 40 ≤ 140737488355328 ∧ 1 + (y :: l).length ≤ 4611686018427387904 from ⟨trivial, by simp only [List.length_cons]; omega, by simp only [List.length_cons]; omega⟩)]
    simp only [List.map_cons] at h2 ⊢
    rw [h2]; rfl
theorem amax_0 {n : Nat} : amax2 (.int .i64 ((n : Int) - 1)) (.int .i64 0) = some (.int .i64 ((n - 1 : Nat) : Int)) := by
  simp only [amax2]
  split
  · rename_i h
    rw [show (n - 1 : Nat) = 0 by omega]; rfl
  · rename_i h
    rw [show ((n : Int) - 1) = ((n - 1 : Nat) : Int) by omega]
theorem okr_cons {rs : Sl Brk} (hrs : rs.ok 0 (Brk.ok 0)) {x : Brk} (h1 : x.bef.length ≤ 1000) (h2 : x.aft.length ≤ 1000) {tg : Tag} {n : Nat} (ht : tagLt n tg) (hl : rs.l.length ≤ 64) : (⟨tg, x :: rs.l⟩ : Sl Brk).ok n (Brk.ok n) :=
  ⟨ht, by simp only [List.length_cons, maxL]; omega, fun y hy => by
    rcases List.mem_cons.1 hy with rfl | hy
    · exact ⟨by simp only [maxL]; omega, by simp only [maxL]; omega⟩
    · exact (hrs.all y hy).mono (Nat.zero_le _)⟩
theorem run_DocsFits (hB : BasE E) (hX : ExtD M) (hU : BrkE E) (hN : UntE E) {rs : Sl Brk} (hrs : rs.ok 0 (Brk.ok 0)) {l : Sl Piece} (hl : l.ok 0 (Piece.ok 0)) {H : List AObj}
    (hL : ∀ H, M.run f_truchmanlaw01_reads [] H = some (.ret (.bool true), H)) : M.run f_truchmanlaw01_DocsFits [.slice rs.tag 3 (rs.l.map Brk.row), .slice l.tag 3 (l.l.map Piece.row)] H = some (.ret (.bool true), H) := by
  have s1 := fun H => run_strict M hU hrs H
  have s2 := fun H => run_long1 M hB hl H
  rw [run_c M hU.truchmanlaw01_DocsFits rfl (c := c_truchmanlaw01_DocsFits) rfl, c_truchmanlaw01_DocsFits]
  cases c1 : strictF rs.l with
  | true => simp (maxSteps := 3000000) (maxDischargeDepth := 6) +contextual -implicitDefEqProofs only [amC M, ↓amD, Nat.reduceBEq, Nat.reduceAdd, env, fargs, q_truchmanlaw01_DocsFits, s1, c1, hL]
  | false =>
  cases c2 : longF [l] with
  | true => simp (maxSteps := 3000000) (maxDischargeDepth := 6) +contextual -implicitDefEqProofs only [amC M, ↓amD, Nat.reduceBEq, Nat.reduceAdd, env, fargs, q_truchmanlaw01_DocsFits, amG, AV.cell, Nat.reduceMul, Nat.reduceLeDiff, s1, c1, s2, strip_slice, c2, hL]
  | false =>
  have hlong := longF_one c2
  have hpl := plainF_len l.l
  have hul := unL_len l.l
  have htx : TxtOk l.l := fun x hx => by have := txtN_mem hx; omega
  have hr := strictF_hr c1
  have hr0 := (strictF_small c1).1
  have p1 := fun H => run_Plain M hU (l := l.l) (tg := l.tag) hl.len (by omega) H
  cases c3 : decide ((400 : Int) < ((plainF l.l).length : Int)) with
  | true => simp (maxSteps := 3000000) (maxDischargeDepth := 6) +contextual -implicitDefEqProofs only [amC M, ↓amD, Nat.reduceBEq, Nat.reduceAdd, env, fargs, q_truchmanlaw01_DocsFits, amG, AV.cell, Nat.reduceMul, Nat.reduceLeDiff, s1, c1, s2, strip_slice, c2, p1, c3, hL]
  | false =>
  have b2 := fun H => run_rCheckBreaks M hB hU hrs (by omega) hr H
  cases c4 : checkB rs.l == 0 with
  | false => simp (maxSteps := 3000000) (maxDischargeDepth := 6) +contextual -implicitDefEqProofs only [amC M, ↓amD, Nat.reduceBEq, Nat.reduceAdd, env, fargs, q_truchmanlaw01_DocsFits, amG, AV.cell, Nat.reduceMul, Nat.reduceLeDiff, s1, c1, s2, strip_slice, c2, p1, c3, b2, c4, hL]
  | true =>
  have b3 := fun H => run_rCheckPieces M hB (l := l) (by omega) htx H
  cases c5 : checkP l.l == 0 with
  | false => simp (maxSteps := 3000000) (maxDischargeDepth := 6) +contextual -implicitDefEqProofs only [amC M, ↓amD, Nat.reduceBEq, Nat.reduceAdd, env, fargs, q_truchmanlaw01_DocsFits, amG, AV.cell, Nat.reduceMul, Nat.reduceLeDiff, s1, c1, s2, strip_slice, c2, p1, c3, b2, c4, b3, c5, hL]
  | true =>
  cases c6 : decide ((64 : Int) ≤ (rs.l.length : Int)) with
  | true => simp (maxSteps := 3000000) (maxDischargeDepth := 6) +contextual -implicitDefEqProofs only [amC M, ↓amD, Nat.reduceBEq, Nat.reduceAdd, env, fargs, q_truchmanlaw01_DocsFits, amG, AV.cell, Nat.reduceMul, Nat.reduceLeDiff, s1, c1, s2, strip_slice, c2, p1, c3, b2, c4, b3, c5, c6, List.length_map, hL]
  | false =>
  have h64 : rs.l.length < 64 := by have := of_decide_eq_false c6; omega
  have e4 : checkB rs.l = 0 := by simpa using c4
  have e5 : checkP l.l = 0 := by simpa using c5
  have u2 := fun H => run_rUnits M hB hU (l := l) (by omega) htx (by omega) H
  rw [unitsF, if_pos e5] at u2
  have v0 := fun H => run_dBreaks M hB hX hU hN hrs (by omega) hr (l := l) (by omega) htx (by omega) H
  rw [breaksV_ok e4 e5] at v0
  have brk := fun (x : Brk) (h1 : x.bef.length ≤ 1000) (h2 : x.aft.length ≤ 1000) (tg : Tag) (H : List AObj) (ht : tagLt H.length tg) => run_dBreaks M hB hX hU hN (rs := ⟨tg, x :: rs.l⟩) (m0 := H.length) (okr_cons hrs h1 h2 ht (by omega)) (by simp; omega) (fun _ r hr' => by
    rcases List.mem_cons.1 hr' with rfl | hr'
    · omega
    · exact hr (by omega) r hr') (l := l) (by omega) htx (by omega) H (Nat.le_refl _)
  obtain ⟨t1, X1, ap1, ht1⟩ := ap_rules (rs := rs) (by omega) pctR H
  have v1 := brk pctR (by decide) (by decide) t1 (H ++ X1) ht1
  obtain ⟨t2, X2, ap2, ht2⟩ := ap_rules (rs := rs) (by omega) allR (H ++ X1)
  have v2 := brk allR (by decide) (by decide) t2 (H ++ X1 ++ X2) ht2
  obtain ⟨t3, X3, ap3, ht3⟩ := ap_rules (rs := rs) (by omega) nonR (H ++ X1 ++ X2)
  have v3 := brk nonR (by decide) (by decide) t3 (H ++ X1 ++ X2 ++ X3) ht3
  have k1 : checkB (pctR :: rs.l) = 0 := checkB_cons patE_pct patE_nil e4 h64
  have k2 : checkB (allR :: rs.l) = 0 := checkB_cons patE_nil patE_nil e4 h64
  have k3 : checkB (nonR :: rs.l) = 0 := checkB_cons patE_nil patE_nil e4 h64
  rw [breaksV_ok k1 e5] at v1
  rw [breaksV_ok k2 e5, plcL, plcF_all] at v2
  rw [breaksV_ok k3 e5, plcL, plcF_non] at v3
  have hun : (unL l.l).length ≤ 5000 := by omega
  simp only [List.append_assoc] at ap1 ap2 ap3 v1 v2 v3
  simp only [show Brk.row pctR = [.str [37, 97, 37, 37, 37, 104, 37, 37], .str [], .bool true] from rfl, show Brk.row allR = [.str [], .str [], .bool true] from rfl, show Brk.row nonR = [.str [], .str [], .bool false] from rfl] at ap1 ap2 ap3
  generalize (pctR :: rs.l).map Brk.row = R1 at ap1 v1
  generalize (allR :: rs.l).map Brk.row = R2 at ap2 v2
  generalize (nonR :: rs.l).map Brk.row = R3 at ap3 v3
  have pl : (plcL rs.l l.l).length ≤ 5000 := Nat.le_trans (plcF_len _ _ _ _) (by omega)
  have seen : ∀ b, b = l.l.any seenP → b = false → plcL (pctR :: rs.l) l.l = plcL rs.l l.l := fun b hb h => by
    rw [plcL, plcL, plcF_cons (ruleF_pct (unL_37 l.l (hb ▸ h)))]
  have z1 := fun v0 v5 v7 v9 (H0 H : List AObj) (hc : CutOk H0 H) k He => lf1 M hl (v0 := v0) (v5 := v5) (v7 := v7) (v9 := v9) hc k l.l.length 0 false He (by omega)
  have z2 := fun v5 v9 (H0 H : List AObj) (hc : CutOk H0 H) k He => lf2 M (L := upF ((unL l.l).length - 1) 1) (by rw [upF_len]; omega) (fun i x hx => by
    have hlt := (List.getElem?_eq_some_iff.1 hx).1
    rw [upF_len] at hlt
    rw [upF_get _ _ _ hlt] at hx
    injection hx with hx
    rw [← hx]; congr 1; omega) (v5 := v5) (v9 := v9) hc k (upF ((unL l.l).length - 1) 1).length 0 He (by omega)
  have z3 := fun (H0 H : List AObj) (hc : CutOk H0 H) k He => lf3 M (L := plcL rs.l l.l) (by omega) (n2 := (unL l.l).length) (by omega) (fun x hx => by
    have := plcF_rng _ _ _ hx; omega) (fun i x y => plcF_inc _ _ i x y) hc k (plcL rs.l l.l).length 0 He (by omega)
  simp only [kv_cons, kv_nil, Int.ofNat_zero, List.drop_zero, Bool.false_or] at z1 z2 z3
  have ul : (upF ((unL l.l).length - 1) 1).length = (unL l.l).length - 1 := upF_len _ _
  have hw1 : IntKind.i64.wrap (((unL l.l).length : Int) - 1) = ((unL l.l).length : Int) - 1 := wrap_i64 (by omega) (by omega)
  have am := amax_0 (n := (unL l.l).length)
  cases hs : l.l.any seenP with
  | true =>
    simp (maxSteps := 3000000) (maxDischargeDepth := 6) +contextual -implicitDefEqProofs only [amC M, ↓amD, Nat.reduceBEq, Nat.reduceAdd, env, fargs, q_truchmanlaw01_DocsFits, amG, AV.cell, Nat.reduceMul, Nat.reduceLeDiff, s1, c1, s2, strip_slice, c2, p1, c3, b2, c4, b3, c5, c6, List.length_map, hL, v0, v1, v2, v3, ap1, ap2, ap3, u2, z1, z2, z3, ul, hs, am, hw1, aextract, List.getElem?_cons_succ, cut_app, beq_self_eq_true, (show ((0 : Int) == 0) = true from rfl), (show (((0 : Nat) : Int) == 0) = true from rfl), List.length_nil]
  | false =>
    have i1 := fun H => run_ints M hU (l := plcL rs.l l.l) (ta := .any) (tb := .any) (by simp only [maxL]; omega) H
    rw [seen _ rfl hs] at v1
    simp (maxSteps := 3000000) (maxDischargeDepth := 6) +contextual -implicitDefEqProofs only [amC M, ↓amD, Nat.reduceBEq, Nat.reduceAdd, env, fargs, q_truchmanlaw01_DocsFits, amG, AV.cell, Nat.reduceMul, Nat.reduceLeDiff, s1, c1, s2, strip_slice, c2, p1, c3, b2, c4, b3, c5, c6, List.length_map, hL, v0, v1, v2, v3, ap1, ap2, ap3, u2, z1, z2, z3, ul, hs, am, hw1, i1, aextract, List.getElem?_cons_succ, cut_app, beq_self_eq_true, (show ((0 : Int) == 0) = true from rfl), (show (((0 : Nat) : Int) == 0) = true from rfl), List.length_nil]
end Go.Am
end

section
set_option maxRecDepth 100000
set_option linter.unusedVariables false
namespace Go.Am
open Go.RowKit Go.ChangeShapes Go.WideShapes

structure TypesOk (P : Program) : Prop where
  u_api_PieceKind : P.underlying t_api_PieceKind = some (.int .u8)
  c_api_PieceKind : P.cellsOf t_api_PieceKind = 1
  u_string : P.underlying t_string = some .string
  c_string : P.cellsOf t_string = 1
  u_bool : P.underlying t_bool = some .bool
  c_bool : P.cellsOf t_bool = 1
  f_Piece : fieldsOf P t_api_Piece = some [(0, t_api_PieceKind), (1, t_string), (2, t_bool)]
  c_Piece : P.cellsOf t_api_Piece = 3
  f_Brk : fieldsOf P t_api_Break = some [(0, t_string), (1, t_string), (2, t_bool)]
  c_Brk : P.cellsOf t_api_Break = 3
  u_sl_Brk : P.underlying t_sl_api_Break = some (.slice t_api_Break)
  c_sl_Brk : P.cellsOf t_sl_api_Break = 1
  y_Brk : Nat.blt 0 (P.bytesOf t_api_Break) = true
  u_sl_Piece : P.underlying t_sl_api_Piece = some (.slice t_api_Piece)
  c_sl_Piece : P.cellsOf t_sl_api_Piece = 1
  y_Piece : Nat.blt 0 (P.bytesOf t_api_Piece) = true
section
variable {P : Program} {W : World} {G : Nat → Option (List AV)}
theorem open_Piece (h : TypesOk P) : Opens P W G t_api_Piece Piece.row (Piece.ok 0) :=
  opens_struct h.f_Piece h.c_Piece (opensF_cons (opens_k h.u_api_PieceKind) h.c_api_PieceKind (opensF_cons (opens_str h.u_string) h.c_string (opensF_cons (opens_bool h.u_bool) h.c_bool (opensF_nil _)))) (fun a => ⟨a.1, a.2.1, a.2.2.1⟩) (fun a => rfl) (fun a ha => ⟨ha.2.1⟩)
theorem open_Brk (h : TypesOk P) : Opens P W G t_api_Break Brk.row (Brk.ok 0) :=
  opens_struct h.f_Brk h.c_Brk (opensF_cons (opens_str h.u_string) h.c_string (opensF_cons (opens_str h.u_string) h.c_string (opensF_cons (opens_bool h.u_bool) h.c_bool (opensF_nil _)))) (fun a => ⟨a.1, a.2.1, a.2.2.1⟩) (fun a => rfl) (fun a ha => ⟨ha.1, ha.2.1⟩)
theorem open_sl_Brk (h : TypesOk P) : Opens P W G t_sl_api_Break (fun s : Sl Brk => [.slice s.tag 3 (s.l.map Brk.row)]) (fun s => s.ok 0 (Brk.ok 0)) :=
  opens_slice h.u_sl_Brk h.c_Brk (by decide) (blt_pos h.y_Brk) (fun _ => by simp only [qBrk]) (open_Brk h)
theorem open_sl_Piece (h : TypesOk P) : Opens P W G t_sl_api_Piece (fun s : Sl Piece => [.slice s.tag 3 (s.l.map Piece.row)]) (fun s => s.ok 0 (Piece.ok 0)) :=
  opens_slice h.u_sl_Piece h.c_Piece (by decide) (blt_pos h.y_Piece) (fun _ => by simp only [qPiece]) (open_Piece h)
end
end Go.Am
end

section
set_option maxRecDepth 1000000
set_option linter.unusedVariables false
namespace Go.Am
open Go.Shelf Go.RowKit Go.Lib Go.Proofs

def utfLay_ren : Go.Shelf.Ren := ⟨fun | 197 => 110 | 260 => 148 | n => n, fun | 9 => 9 | 21 => 21 | 3 => 3 | 4 => 4 | 5 => 5 | 105 => 169 | 119 => 226 | 0 => 0 | 46 => 227 | 139 => 230 | 138 => 229 | n => n, fun | 3 => 0 | 4 => 1 | n => n⟩
theorem utfLay : Go.Proofs.Lays.n197 Tryz.prog utfLay_ren where
  mixed := by kernel_rfl
  f197 := Tryz.func110.trans (congrArg some (by kernel_rfl))
  f260 := Tryz.func148.trans (congrArg some (by kernel_rfl))
  t0 := Tryz.underlying0
  a0 := Tryz.isAgg0
  z0 := Tryz.sizeOf0
  v0 := Tryz.zeroValue0
  t3 := Tryz.underlying3
  a3 := Tryz.isAgg3
  z3 := Tryz.sizeOf3
  v3 := Tryz.zeroValue3
  t4 := Tryz.underlying4
  a4 := Tryz.isAgg4
  z4 := Tryz.sizeOf4
  v4 := Tryz.zeroValue4
  t5 := Tryz.underlying5
  a5 := Tryz.isAgg5
  z5 := Tryz.sizeOf5
  v5 := Tryz.zeroValue5
  t9 := Tryz.underlying9
  a9 := Tryz.isAgg9
  z9 := Tryz.sizeOf9
  v9 := Tryz.zeroValue9
  t21 := Tryz.underlying21
  a21 := Tryz.isAgg21
  z21 := Tryz.sizeOf21
  v21 := Tryz.zeroValue21
  t46 := Tryz.underlying227
  a46 := Tryz.isAgg227
  z46 := Tryz.sizeOf227
  v46 := Tryz.zeroValue227
  t105 := Tryz.underlying169
  a105 := Tryz.isAgg169
  z105 := Tryz.sizeOf169
  v105 := Tryz.zeroValue169
  t119 := Tryz.underlying226
  a119 := Tryz.isAgg226
  z119 := Tryz.sizeOf226
  t138 := Tryz.underlying229
  a138 := Tryz.isAgg229
  z138 := Tryz.sizeOf229
  v138 := Tryz.zeroValue229
  t139 := Tryz.underlying230
  a139 := Tryz.isAgg230
  z139 := Tryz.sizeOf230
  v139 := Tryz.zeroValue230
  g3 := by kernel_rfl
  g4 := by kernel_rfl

theorem dec_enters : ∀ args w, (callFunc 110 args).run Tryz.prog w = .ok (.enter 110 args) w := enters_of Tryz.func110 (by kernel_rfl) rfl
theorem dec_calls : ∀ (s : ByteArray) (w : World), Lib.Utf8Tabs 0 1 w → Calls Tryz.prog 110 #[.string s] w fun e w' => e = .returned (.tuple #[.int .i32 (Lib.decodeGo s).1, .int .i64 (Lib.decodeGo s).2]) ∧ Below w.heap.size w w' := fun s w hT => Any.utf8_DecodeRuneInString utfLay s w hT
theorem tabs_laid {W : World} (h3 : VarReads Tryz.prog W "unicode/utf8.first" firstData) (h4 : VarReads Tryz.prog W "unicode/utf8.acceptRanges" acceptData) : Lib.Utf8Tabs 0 1 W :=
  utf8Tabs_of_readsT (ρ := utfLay_ren) { utfLay with } ⟨by kernel_rfl, by kernel_rfl, by kernel_rfl, by kernel_rfl, by kernel_rfl, by kernel_rfl, by kernel_rfl⟩ h3 h4

end Go.Am
end

section
set_option maxRecDepth 1000000
namespace Go.Am
open Go.RowKit Go.Proofs

def ntabL0 : List (Nat × AFn) := [(3, a_truchmanlaw01_DocsBreaks), (4, a_truchmanlaw01_DocsFits), (9, a_truchmanlaw01_strict), (10, a_truchmanlaw01_long), (11, a_truchmanref01_Plain), (13, a_docs_Units), (14, a_truchmanref01_Units), (15, a_docs_CheckBreaks), (16, a_truchmanref01_CheckBreaks), (17, a_docs_Breaks), (18, a_truchmanref01_Breaks), (19, a_truchmanlaw01_ints)]
theorem ntabO0 : AllOk (CompOk Tryz.prog G0) ntabL0 := by repeat' first | (unfold CompOk; kernel_rfl) | exact trivial | refine ⟨?_, ?_⟩
def ntabL1 : List (Nat × AFn) := [(20, a_docs_Fits), (21, a_truchmanref01_Fits), (22, a_truchmanref01_CheckPieces), (25, a_truchmanref01_SamePieces), (44, a_docs_CheckPieces), (45, a_slices_Collect_docs_unit), (46, a_docs_units), (47, a_truchmanref01_units), (48, a_docs_compiled), (49, a_truchmanref01_fits), (50, a_truchmanref01_Text), (51, a_docs_places)]
theorem ntabO1 : AllOk (CompOk Tryz.prog G0) ntabL1 := by repeat' first | (unfold CompOk; kernel_rfl) | exact trivial | refine ⟨?_, ?_⟩
def ntabL2 : List (Nat × AFn) := [(52, a_truchmanref01_breaks), (53, a_docs_rule_fits), (54, a_truchmanref01_width), (55, a_truchmanref01_behind), (56, a_truchmanref01_alone), (57, a_truchmanref01_carried), (75, a_docs_isText), (80, a_docs_unit_word), (81, a_docs_unit_mark), (88, a_docs_carried_takes), (90, a_docs_isName), (91, a_docs_stack_string_pop)]
theorem ntabO2 : AllOk (CompOk Tryz.prog G0) ntabL2 := by repeat' first | (unfold CompOk; kernel_rfl) | exact trivial | refine ⟨?_, ?_⟩
def ntabL3 : List (Nat × AFn) := [(92, a_docs_stack_string_push), (93, a_slices_AppendSeq_docs_unit_docs_unit), (94, a_docs_units_1), (95, a_docs_items), (96, a_docs_ahead), (97, a_docs_behind), (98, a_truchmanref01_edge), (99, a_truchmanref01_one), (100, a_truchmanref01_Name), (117, a_docs_unit_letter), (118, a_docs_unit_digit), (119, a_docs_unit_blank)]
theorem ntabO3 : AllOk (CompOk Tryz.prog G0) ntabL3 := by repeat' first | (unfold CompOk; kernel_rfl) | exact trivial | refine ⟨?_, ?_⟩
def ntabL4 : List (Nat × AFn) := [(131, a_docs_items_1), (132, a_docs_items_2), (133, a_docs_items_3), (134, a_docs_items_4), (135, a_docs_items_5), (136, a_docs_items_6), (137, a_docs_edge), (138, a_truchmanref01_inWord), (139, a_truchmanref01_letter), (140, a_truchmanref01_digit), (141, a_truchmanref01_mark)]
theorem ntabO4 : AllOk (CompOk Tryz.prog G0) ntabL4 := by repeat' first | (unfold CompOk; kernel_rfl) | exact trivial | refine ⟨?_, ?_⟩
def ntabLs : List (Nat × List (Nat × AFn)) := [(19, ntabL0), (51, ntabL1), (91, ntabL2), (119, ntabL3), (141, ntabL4)]
def ntab (f : FuncId) : Option AFn := look2 ntabLs f
theorem ntab_ok : ∀ f af, ntab f = some af → CompOk Tryz.prog G0 f af := fun f af h => look2_ok (show AllOk2 _ ntabLs from ⟨ntabO0, ntabO1, ntabO2, ntabO3, ntabO4, trivial⟩) h

/-- The examples: run alone; runes: by the kit's contract. -/
def dorc (f : FuncId) (args : List AV) (H : List AObj) : Option Out :=
  match args with
  | [] => bif Nat.beq f f_truchmanlaw01_reads then some (.ret (.bool true), H) else none
  | [.str s] => bif Nat.beq f f_unicode_utf8_DecodeRuneInString then some (.ret (.tuple [.int .i32 ((decO s).1 : Nat), .int .i64 ((decO s).2 : Nat)]), H) else none
  | _ => xorc f args H
theorem dorc_ok {f : FuncId} {args : List AV} {H H' : List AObj} {r : ARes} (h : dorc f args H = some (r, H')) : ACalls Tryz.prog G0 f args H fun r2 H2 => r2 = r ∧ H2 = H' := by
  unfold dorc at h
  split at h
  · cases h1 : Nat.beq f f_truchmanlaw01_reads with
    | true => rw [h1] at h; cases h; rw [Nat.eq_of_beq_eq_true h1]; exact lives_ok H
    | false => rw [h1] at h; cases h
  · rename_i s
    cases h1 : Nat.beq f f_unicode_utf8_DecodeRuneInString with
    | true => rw [h1] at h; cases h; rw [Nat.eq_of_beq_eq_true h1]; exact ext_dec rfl dec_enters dec_calls s H
    | false => rw [h1] at h; cases h
  · exact xorc_ok h

noncomputable def EN : REnv := { P := Tryz.prog, G := G0, fn := ntab, orc := dorc, dfn := fun _ => none, seq := seq0, sar := fun _ => 1 }
theorem EN_ok : EN.Ok := ⟨x_mixed, fun f af h => ntab_ok f af h, (fun _ _ _ h => by cases h), (fun _ _ _ _ _ h => by cases h), fun _ _ _ _ _ h => dorc_ok h, (fun _ _ _ h => by cases h), seq0_ok⟩

end Go.Am
end

