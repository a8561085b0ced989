import Derived.Test.YtaomolffnolpdaaGreatDoorA5
import Derived.Test.YtaomolffnolpdaaGreatDoorChecked
import Derived.Shelf.Unicode.DecodeAny
import Derived.Lib.LaidU8T
import Derived.KernelRfl
/-
  Part 6 of the tool: an abstract machine over the model, proved sound, and what it says of the functions that the law reaches. Condition: none but those that each theorem names.
-/
set_option linter.unusedVariables false
set_option linter.unusedSimpArgs false
section
set_option linter.unusedSimpArgs false
set_option linter.unusedVariables false
set_option maxRecDepth 100000
set_option maxHeartbeats 4000000
namespace Go.Am
open Go.RowKit
attribute [local congr] dsel_congr sel_c1 slc_cong gsel_congr go_congr aft_congr aftD_congr condR_congr backR_congr inR_congr at2_congr
variable {E : REnv} (M : Mach cdec E)

/-! How much is asked: long, strict -/
def plRow (p : Sl Piece) : List AV := [.slice p.tag 3 (p.l.map Piece.row)]
theorem qPl : (∀ p : Sl Piece, rload none (plRow p) 0 = some (.slice p.tag 3 (p.l.map Piece.row))) ∧ (∀ p : Sl Piece, takeO 1 (plRow p) = some (plRow p)) ∧ (∀ p : Sl Piece, (plRow p).length = 1) := ⟨fun _ => rfl, fun _ => rfl, fun _ => rfl⟩
def lngP (n : Nat) : List Piece → Nat
  | [] => n
  | x :: l => if n < 5000 then lngP (n + x.text.length) l else n
def lngL (n : Nat) : List (Sl Piece) → Nat
  | [] => n
  | p :: ps => lngL (lngP (n + p.l.length) p.l) ps
def longF (ps : List (Sl Piece)) : Bool := decide (2500 < lngL 0 ps)
theorem lngP_ge : ∀ (l : List Piece) (n : Nat), 5000 ≤ n → lngP n l = n
  | [], n, _ => rfl
  | x :: l, n, h => by rw [lngP, if_neg (by omega)]
theorem lngP_le : ∀ (l : List Piece) (n : Nat), (∀ x ∈ l, x.text.length ≤ maxL) → n < 5000 → lngP n l ≤ maxL + 5000
  | [], n, _, hn => by rw [lngP]; simp only [maxL]; omega
  | x :: l, n, h, hn => by
    rw [lngP, if_pos hn]
    have h1 := h x List.mem_cons_self
    by_cases h2 : n + x.text.length < 5000
    · exact lngP_le l (n + x.text.length) (fun y hy => h y (List.mem_cons_of_mem _ hy)) h2
    · rw [lngP_ge l _ (by omega)]; omega
theorem lngP_le2 (l : List Piece) (n : Nat) (h : ∀ x ∈ l, x.text.length ≤ maxL) : lngP n l ≤ n + maxL + 5000 := by
  by_cases hn : n < 5000
  · have := lngP_le l n h hn; omega
  · rw [lngP_ge l n (by omega)]; omega
theorem lngP_mono : ∀ (l : List Piece) (n : Nat), n ≤ lngP n l
  | [], n => Nat.le_refl _
  | x :: l, n => by
    rw [lngP]; split
    · have := lngP_mono l (n + x.text.length); omega
    · exact Nat.le_refl _
theorem lngL_mono : ∀ (ps : List (Sl Piece)) (n : Nat), n ≤ lngL n ps
  | [], n => Nat.le_refl _
  | p :: ps, n => by
    rw [lngL]
    have h1 := lngP_mono p.l (n + p.l.length)
    have h2 := lngL_mono ps (lngP (n + p.l.length) p.l)
    omega
def txtN (l : List Piece) : Nat := (l.map fun x => x.text.length).sum
theorem lngP_eq : ∀ (l : List Piece) (n : Nat), lngP n l ≤ 2500 → lngP n l = n + txtN l
  | [], n, _ => by simp [lngP, txtN]
  | x :: l, n, h => by
    have h0 : n < 5000 := by have := lngP_mono (x :: l) n; omega
    rw [lngP, if_pos h0] at h ⊢
    rw [lngP_eq l _ h, txtN, txtN, List.map_cons, List.sum_cons]; omega
def allN (ps : List (Sl Piece)) : Nat := (ps.map fun p => p.l.length + txtN p.l).sum
theorem lngL_eq : ∀ (ps : List (Sl Piece)) (n : Nat), lngL n ps ≤ 2500 → lngL n ps = n + allN ps
  | [], n, _ => by simp [lngL, allN]
  | p :: ps, n, h => by
    rw [lngL] at h ⊢
    have h0 := lngL_mono ps (lngP (n + p.l.length) p.l)
    rw [lngL_eq ps _ h, lngP_eq p.l _ (by omega), allN, allN, List.map_cons, List.sum_cons]; omega
theorem longF_one {p : Sl Piece} (h : longF [p] = false) : p.l.length + txtN p.l ≤ 2500 := by
  have h1 : lngL 0 [p] ≤ 2500 := by have := of_decide_eq_false h; omega
  have h2 := lngL_eq [p] 0 h1
  simp only [allN, List.map_cons, List.map_nil, List.sum_cons, List.sum_nil] at h2
  omega
theorem txtN_mem {l : List Piece} {x : Piece} (h : x ∈ l) : x.text.length ≤ txtN l := by
  induction l with
  | nil => cases h
  | cons y l ih =>
    rw [txtN, List.map_cons, List.sum_cons]
    rcases List.mem_cons.1 h with rfl | h
    · omega
    · have := ih h; unfold txtN at this; omega
theorem unL_len : ∀ l : List Piece, (unL l).length ≤ l.length + txtN l
  | [] => by simp [unL]
  | x :: l => by
    show (unP x ++ unL l).length ≤ _
    have h1 := unP_len x
    have h2 := unL_len l
    rw [List.length_append, txtN, List.map_cons, List.sum_cons, List.length_cons]
    unfold txtN at h2; omega
theorem plainF_len : ∀ l : List Piece, (plainF l).length ≤ txtN l
  | [] => by simp [plainF]
  | x :: l => by
    have h2 := plainF_len l
    rw [plainF, List.length_append, txtN, List.map_cons, List.sum_cons]
    unfold txtN at h2
    cases x.kind == 1
    · rw [sel_false, List.length_nil]; omega
    · rw [sel_true]; omega
theorem lgi {H H0 : List AObj} {ps : List (Sl Piece)} {tg : Tag} {j : Nat} {p : Sl Piece} (hp : ps[j]? = some p) (hj : j < ps.length) (hpl : p.l.length ≤ maxL) (hpt : ∀ x ∈ p.l, x.text.length ≤ maxL) (hc : CutOk H0 H) (k : List Fra) : ∀ (n i : Nat) (n2 : Nat) (hn : n2 ≤ 1000000000000000000) (He : List AObj), i + n = (p.l).length →
    M.go a_truchmanlaw01_long H0 (.c l_truchmanlaw01_long_0 :: .lp ⟨(some [0, 3, 4, 5]), [], false⟩ l_truchmanlaw01_long_0 He :: .blk 2 :: .c (.lv [0, 3, 4]) :: k) (kv [(0, .slice tg 1 (ps.map plRow)), (3, .int .i64 n2), (4, .int .i64 j), (5, .int .i64 i)]) H =
      (M.go a_truchmanlaw01_long H0 k (kv [(0, .slice tg 1 (ps.map plRow)), (3, .int .i64 (lngP n2 (p.l.drop i) : Nat)), (4, .int .i64 j)]) (H))
  | 0, i, n2, hn, He, h => by
    have e : i = (p.l).length := by omega
    subst e
    rw [go_head M l_truchmanlaw01_long_0.eq_1]
    simp (maxSteps := 3000000) (maxDischargeDepth := 6) +contextual -implicitDefEqProofs only [amC M, ↓amD, Nat.reduceBEq, Nat.reduceAdd, env, fargs, q_truchmanlaw01_long, Nat.lt_irrefl, List.drop_length, hp, hpl, qPl, ias_row hj, lngP]
  | n + 1, i, n2, hn, He, h => by
    have hi : i < (p.l).length := by omega
    have hx : (p.l)[i]? = some (p.l)[i] := List.getElem?_eq_getElem hi
    have hd : ((p.l).drop i) = (p.l)[i] :: (p.l).drop (i + 1) := List.drop_eq_getElem_cons hi
    have hm : (p.l)[i] ∈ (p.l) := List.getElem_mem hi
    have ih := fun n2 hn He => lgi (H := H) (H0 := H0) (ps := ps) (tg := tg) (j := j) (p := p) (hp := hp) (hj := hj) (hpl := hpl) (hpt := hpt) hc k n (i + 1) n2 hn He (by omega)
    simp only [kv_cons, kv_nil] at ih
    have hij := ias_row (row := plRow) (tag := tg) (sz := 1) (k := .i64) hj
    have hir := ias_row (row := Piece.row) (tag := p.tag) (sz := 3) (k := .i64) hi
    have hwi := wrap_s (n := p.l.length) hi hpl
    have hmt := hpt _ hm
    by_cases h5 : n2 < 5000
    · have d5 : decide ((n2 : Int) < 5000) = true := decide_eq_true (by omega)
      have hw2 : IntKind.i64.wrap ((n2 : Int) + (p.l[i].text.length : Int)) = ((n2 + p.l[i].text.length : Nat) : Int) := by rw [wrap_i64 (by omega) (by simp only [maxL] at hmt; omega)]; omega
      have ih := ih (n2 + p.l[i].text.length) (by simp only [maxL] at hmt; omega)
      rw [hd, lngP, if_pos h5]
      rw [go_head M l_truchmanlaw01_long_0.eq_1]
      simp (maxSteps := 3000000) (maxDischargeDepth := 6) +contextual -implicitDefEqProofs only [amC M, ↓amD, Nat.reduceBEq, Nat.reduceAdd, env, fargs, q_truchmanlaw01_long, hi, hx, hp, hd, d5, ih, hij, hir, hwi, hw2, qPl, qPiece]
    · have d5 : decide ((n2 : Int) < 5000) = false := decide_eq_false (by omega)
      rw [lngP_ge _ _ (by omega)]
      rw [go_head M l_truchmanlaw01_long_0.eq_1]
      simp (maxSteps := 3000000) (maxDischargeDepth := 6) +contextual -implicitDefEqProofs only [amC M, ↓amD, Nat.reduceBEq, Nat.reduceAdd, env, fargs, q_truchmanlaw01_long, hi, hx, hp, hd, d5, hij, hir, qPl, qPiece]
theorem lgo {H H0 : List AObj} {ps : List (Sl Piece)} {tg : Tag} (hps : ps.length ≤ 100) (hpl : ∀ p ∈ ps, p.l.length ≤ maxL ∧ ∀ x ∈ p.l, x.text.length ≤ maxL) (hc : CutOk H0 H) (k : List Fra) : ∀ (n i : Nat) (n2 : Nat) (hn : n2 ≤ i * 300000000000000) (He : List AObj), i + n = ps.length →
    M.go a_truchmanlaw01_long H0 (.c l_truchmanlaw01_long_1 :: .lp ⟨(some [0, 3, 4]), [], false⟩ l_truchmanlaw01_long_1 He :: .blk 0 :: .c (.lv [3]) :: k) (kv [(0, .slice tg 1 (ps.map plRow)), (3, .int .i64 n2), (4, .int .i64 i)]) H =
      (M.go a_truchmanlaw01_long H0 k (kv [(3, .int .i64 (lngL n2 (ps.drop i) : Nat))]) (H))
  | 0, i, n2, hn, He, h => by
    have e : i = ps.length := by omega
    subst e
    rw [go_head M l_truchmanlaw01_long_1.eq_1]
    simp (maxSteps := 3000000) (maxDischargeDepth := 6) +contextual -implicitDefEqProofs only [amC M, ↓amD, Nat.reduceBEq, Nat.reduceAdd, env, fargs, q_truchmanlaw01_long, Nat.lt_irrefl, List.drop_length, lngL]
  | n + 1, i, n2, hn, He, h => by
    have hi : i < ps.length := by omega
    have hx : ps[i]? = some ps[i] := List.getElem?_eq_getElem hi
    have hd : (ps.drop i) = ps[i] :: ps.drop (i + 1) := List.drop_eq_getElem_cons hi
    have hm : ps[i] ∈ ps := List.getElem_mem hi
    have ih := fun n2 hn He => lgo (H := H) (H0 := H0) (ps := ps) (tg := tg) (hps := hps) (hpl := hpl) hc k n (i + 1) n2 hn He (by omega)
    simp only [kv_cons, kv_nil] at ih
    have hij := ias_row (row := plRow) (tag := tg) (sz := 1) (k := .i64) hi
    have hwi := wrap_s (n := ps.length) hi (by simp only [maxL]; omega)
    have hq := hpl _ hm
    have hq1 : ps[i].l.length ≤ 140737488351232 := hq.1
    have hw2 : IntKind.i64.wrap ((n2 : Int) + (ps[i].l.length : Int)) = ((n2 + ps[i].l.length : Nat) : Int) := by rw [wrap_i64 (by omega) (by omega)]; omega
    have hb := lngP_le2 ps[i].l (n2 + ps[i].l.length) hq.2
    have hz := fun k He => lgi M (H := H) (H0 := H0) (ps := ps) (tg := tg) (j := i) (p := ps[i]) hx hi hq.1 hq.2 hc k ps[i].l.length 0 (n2 + ps[i].l.length) (by omega) He (by omega)
    have ih := ih (lngP (n2 + ps[i].l.length) ps[i].l) (by simp only [maxL] at hb; omega)
    simp only [kv_cons, kv_nil, Int.ofNat_zero, List.drop_zero] at hz
    rw [hd, lngL]
    rw [go_head M l_truchmanlaw01_long_1.eq_1]
    simp (maxSteps := 3000000) (maxDischargeDepth := 6) +contextual -implicitDefEqProofs only [amC M, ↓amD, Nat.reduceBEq, Nat.reduceAdd, env, fargs, q_truchmanlaw01_long, hi, hx, ih, hz, hij, hwi, hw2, qPl, List.length_map]
theorem run_long (hB : BasE E) {ps : List (Sl Piece)} {tg : Tag} (hps : ps.length ≤ 100) (hpl : ∀ p ∈ ps, p.l.length ≤ maxL ∧ ∀ x ∈ p.l, x.text.length ≤ maxL) (H : List AObj) :
    M.run f_truchmanlaw01_long [.slice tg 1 (ps.map plRow)] H = some (.ret (.bool (longF ps)), H) := by
  rw [run_c M hB.truchmanlaw01_long rfl (c := c_truchmanlaw01_long) rfl, c_truchmanlaw01_long]
  have h1 := fun k He => lgo M (tg := tg) hps hpl (cut_refl H) k ps.length 0 0 (by omega) He (by omega)
  simp only [kv_cons, kv_nil, Int.ofNat_zero, List.drop_zero] at h1
  have h2 : decide ((2500 : Int) < (lngL 0 ps : Int)) = decide (2500 < lngL 0 ps) := by rw [Bool.eq_iff_iff]; simp; omega
  simp (maxSteps := 3000000) (maxDischargeDepth := 6) +contextual -implicitDefEqProofs only [amC M, ↓amD, Nat.reduceBEq, Nat.reduceAdd, env, fargs, q_truchmanlaw01_long, h1, h2, longF]
theorem run_long1 (hB : BasE E) {l : Sl Piece} (h : l.ok 0 (Piece.ok 0)) (H : List AObj) : M.run f_truchmanlaw01_long [.slice .full 1 [[.slice l.tag.strip 3 (l.l.map Piece.row)]]] H = some (.ret (.bool (longF [l])), H) :=
  run_long M hB (tg := .full) (ps := [⟨l.tag.strip, l.l⟩]) (by simp) (fun p hp => by
    rw [List.mem_singleton] at hp; subst hp
    exact ⟨h.len, fun x hx => (h.all x hx).text⟩) H
theorem qreqB : (∀ b c : Bool, req .bool (.bool b) (.bool c) = some (b == c)) := fun _ _ => rfl
def brkN (n : Nat) (x : Brk) : Nat := n + x.bef.length + x.aft.length
def strictF (rs : List Brk) : Bool := decide (600 < (rs.take 100).foldl brkN rs.length)
theorem take_get2 {α : Type} (l : List α) (n : Nat) : ∀ k, k < (l.take n).length → l[k]? = (l.take n)[k]? := fun k hk => by
  rw [List.getElem?_take, if_pos (by rw [List.length_take] at hk; omega)]
theorem st_and0 {n m : Nat} (h : m = min 100 n) : (decide (m < n) && decide ((m : Int) < 100)) = false := by
  rw [Bool.eq_false_iff]; simp; omega
theorem stl {H H0 : List AObj} {b Lf : List Brk} {tg : Tag} (hM : Lf.length = min 100 b.length) (hL : ∀ k, k < Lf.length → b[k]? = Lf[k]?) (hb : ∀ x ∈ b, x.bef.length ≤ maxL ∧ x.aft.length ≤ maxL) (hc : CutOk H0 H) (k : List Fra) : ∀ (n i : Nat) (n2 : Nat) (hn : n2 ≤ 140737488351232 + i * 300000000000000) (He : List AObj), i + n = Lf.length →
    M.go a_truchmanlaw01_strict H0 (.c l_truchmanlaw01_strict_0 :: .lp ⟨(some [0, 3, 4]), [], false⟩ l_truchmanlaw01_strict_0 He :: .blk 0 :: .c (.lv [3]) :: k) (kv [(0, .slice tg 3 (b.map Brk.row)), (3, .int .i64 n2), (4, .int .i64 i)]) H =
      (M.go a_truchmanlaw01_strict H0 k (kv [(3, .int .i64 ((Lf.drop i).foldl brkN n2 : Nat))]) (H))
  | 0, i, n2, hn, He, h => by
    have e : i = Lf.length := by omega
    subst e
    rw [go_head M l_truchmanlaw01_strict_0.eq_1]
    simp (maxSteps := 3000000) (maxDischargeDepth := 6) +contextual -implicitDefEqProofs only [amC M, ↓amD, Nat.reduceBEq, Nat.reduceAdd, env, fargs, q_truchmanlaw01_strict, Nat.lt_irrefl, List.drop_length, st_and0 hM, List.foldl_nil]
  | n + 1, i, n2, hn, He, h => by
    have hi : i < Lf.length := by omega
    have hx : Lf[i]? = some Lf[i] := List.getElem?_eq_getElem hi
    have hd : (Lf.drop i) = Lf[i] :: Lf.drop (i + 1) := List.drop_eq_getElem_cons hi
    have hm : Lf[i] ∈ Lf := List.getElem_mem hi
    have ih := fun n2 hn He => stl (H := H) (H0 := H0) (b := b) (Lf := Lf) (tg := tg) (hM := hM) (hL := hL) (hb := hb) hc k n (i + 1) n2 hn He (by omega)
    simp only [kv_cons, kv_nil] at ih
    have hib : i < b.length := by omega
    have hxb := (hL i hi).trans hx
    have hq := hb Lf[i] (List.mem_of_getElem? hxb)
    have hq1 : Lf[i].bef.length ≤ 140737488351232 := hq.1
    have hq2 : Lf[i].aft.length ≤ 140737488351232 := hq.2
    have hlt : decide ((i : Int) < 100) = true := decide_eq_true (by omega)
    have hw1 : IntKind.i64.wrap ((n2 : Int) + (Lf[i].bef.length : Int)) = ((n2 + Lf[i].bef.length : Nat) : Int) := by rw [wrap_i64 (by omega) (by omega)]; omega
    have hw2 : IntKind.i64.wrap (((n2 + Lf[i].bef.length : Nat) : Int) + (Lf[i].aft.length : Int)) = ((brkN n2 Lf[i] : Nat) : Int) := by rw [wrap_i64 (by omega) (by omega), brkN]; omega
    have ih := ih (brkN n2 Lf[i]) (by unfold brkN; omega)
    rw [hd, List.foldl_cons]
    rw [go_head M l_truchmanlaw01_strict_0.eq_1]
    simp (maxSteps := 3000000) (maxDischargeDepth := 6) +contextual -implicitDefEqProofs only [amC M, ↓amD, Nat.reduceBEq, Nat.reduceAdd, env, fargs, q_truchmanlaw01_strict, hib, hxb, ih, hlt, ias_row hib, qBrk, wrap_s (n := 100) (show i < 100 by omega) (by simp [maxL]), hw1, hw2]
theorem run_strict (hU : BrkE E) {rs : Sl Brk} (h : rs.ok 0 (Brk.ok 0)) (H : List AObj) : M.run f_truchmanlaw01_strict [.slice rs.tag 3 (rs.l.map Brk.row)] H = some (.ret (.bool (strictF rs.l)), H) := by
  rw [run_c M hU.truchmanlaw01_strict rfl (c := c_truchmanlaw01_strict) rfl, c_truchmanlaw01_strict]
  have hl : rs.l.length ≤ 140737488351232 := h.len
  have h1 := fun k He => stl M (b := rs.l) (Lf := rs.l.take 100) (tg := rs.tag) (by simp) (take_get2 rs.l 100) (fun x hx => ⟨(h.all x hx).bef, (h.all x hx).aft⟩) (cut_refl H) k (rs.l.take 100).length 0 rs.l.length (by omega) He (by omega)
  simp only [kv_cons, kv_nil, Int.ofNat_zero, List.drop_zero] at h1
  have h2 : decide ((600 : Int) < (((rs.l.take 100).foldl brkN rs.l.length : Nat) : Int)) = strictF rs.l := by rw [strictF, Bool.eq_iff_iff]; simp; omega
  simp (maxSteps := 3000000) (maxDischargeDepth := 6) +contextual -implicitDefEqProofs only [amC M, ↓amD, Nat.reduceBEq, Nat.reduceAdd, env, fargs, q_truchmanlaw01_strict, h1, h2, List.length_map]
theorem brkN_ge : ∀ (l : List Brk) (n : Nat), n ≤ l.foldl brkN n ∧ ∀ x ∈ l, x.bef.length + x.aft.length ≤ l.foldl brkN n
  | [], n => ⟨Nat.le_refl _, fun x h => by cases h⟩
  | y :: l, n => by
    obtain ⟨h1, h2⟩ := brkN_ge l (brkN n y)
    rw [List.foldl_cons]
    refine ⟨by unfold brkN at h1 ⊢; omega, fun x hx => ?_⟩
    rcases List.mem_cons.1 hx with rfl | hx
    · unfold brkN at h1 ⊢; omega
    · exact h2 x hx
theorem strictF_small {rs : List Brk} (h : strictF rs = false) : rs.length ≤ 600 ∧ ∀ (i : Nat) (x : Brk), i < 100 → rs[i]? = some x → x.bef.length ≤ 600 ∧ x.aft.length ≤ 600 := by
  have h0 : (rs.take 100).foldl brkN rs.length ≤ 600 := by have := of_decide_eq_false h; omega
  obtain ⟨h1, h2⟩ := brkN_ge (rs.take 100) rs.length
  refine ⟨by omega, fun i x hi hx => ?_⟩
  have hm : x ∈ rs.take 100 := List.mem_of_getElem? (i := i) (by rw [List.getElem?_take, if_pos hi]; exact hx)
  have := h2 x hm
  omega
theorem strictF_hr {rs : List Brk} (h : strictF rs = false) : rs.length ≤ 64 → ∀ r ∈ rs, r.bef.length ≤ 1000000 ∧ r.aft.length ≤ 1000000 := fun h64 r hr => by
  obtain ⟨i, hi⟩ := List.getElem?_of_mem hr
  have hlt := (List.getElem?_eq_some_iff.1 hi).1
  have := (strictF_small h).2 i r (by omega) hi
  omega
end Go.Am
end

section
set_option linter.unusedSimpArgs false
set_option linter.unusedVariables false
set_option maxRecDepth 100000
set_option maxHeartbeats 4000000
namespace Go.Am
open Go.RowKit
attribute [local congr] dsel_congr sel_c1 slc_cong gsel_congr go_congr aft_congr aftD_congr condR_congr backR_congr inR_congr at2_congr
variable {E : REnv} (M : Mach cdec E)

/-! DocsBreaks -/
theorem fitsV_shape (r : Brk) (l : List Piece) (a : Int) : ∃ (b : Bool) (e : Int), fitsV r l a = .tuple [.bool b, .int .u8 e] := by
  unfold fitsV
  cases checkB [r] == 0 with
  | false => exact ⟨_, _, rfl⟩
  | true =>
    rw [sel_true]
    cases checkP l == 0 with
    | false => exact ⟨_, _, rfl⟩
    | true =>
      rw [sel_true]
      cases (decide (a < 0) || decide (((unL l).length : Int) < a)) with
      | false => exact ⟨_, _, rfl⟩
      | true => exact ⟨_, _, rfl⟩
theorem plcF_len (u : List Un) (rs : List Brk) : ∀ n a, (plcF u rs n a).length ≤ n
  | 0, a => Nat.le_refl _
  | n + 1, a => by
    have := plcF_len u rs n (a + 1)
    rw [plcF, List.length_append]
    cases brkF u a rs
    · rw [sel_false, List.length_nil]; omega
    · rw [sel_true, List.length_singleton]; omega
theorem breaksV_shape (rs : List Brk) (l : List Piece) : ∃ (o : List Int) (e : Int), breaksV rs l = .tuple [.slice .any 1 (o.map intRow), .int .u8 e] ∧ o.length ≤ (unL l).length := by
  unfold breaksV
  cases checkB rs == 0 with
  | false => exact ⟨[], _, rfl, Nat.zero_le _⟩
  | true =>
    rw [sel_true]
    cases checkP l == 0 with
    | false => exact ⟨[], _, rfl, Nat.zero_le _⟩
    | true => exact ⟨plcL rs l, 0, rfl, Nat.le_trans (plcF_len _ _ _ _) (by omega)⟩
theorem bk0 (hB : BasE E) (hX : ExtD M) (hU : BrkE E) (hN : UntE E) {rs : List Brk} {tr : Tag} {i : Nat} {r : Brk} (hi : i < rs.length) (hx : rs[i]? = some r) (hrs : (⟨.full, [r]⟩ : Sl Brk).ok 0 (Brk.ok 0)) (hr1 : r.bef.length ≤ 1000000) (hr2 : r.aft.length ≤ 1000000) {l : Sl Piece} (hl : l.l.length ≤ 100000) (ht : TxtOk l.l) (hu : (unL l.l).length ≤ 1000000) {m : Nat} (hm : m ≤ 1000000) {H H0 : List AObj} (k : List Fra) :
    ∀ (n : Nat) (a : Int) (He : List AObj), ((m : Int) + 2 - a).toNat = n → -1 ≤ a →
    M.go a_truchmanlaw01_DocsBreaks H0 (.c l_truchmanlaw01_DocsBreaks_0 :: .lp ⟨(some [0, 1, 7, 11, 12]), [], false⟩ l_truchmanlaw01_DocsBreaks_0 He :: .blk 2 :: .c (.lv [0, 1, 7, 11]) :: k) (kv [(0, .slice tr 3 (rs.map Brk.row)), (1, .slice l.tag 3 (l.l.map Piece.row)), (7, .int .i64 m), (11, .int .i64 i), (12, .int .i64 a)]) H =
      M.go a_truchmanlaw01_DocsBreaks H0 k (kv [(0, .slice tr 3 (rs.map Brk.row)), (1, .slice l.tag 3 (l.l.map Piece.row)), (7, .int .i64 m), (11, .int .i64 i)]) H
  | 0, a, He, h, ha => by
    have hw : IntKind.i64.wrap ((m : Int) + 1) = (m : Int) + 1 := wrap_i64 (by omega) (by omega)
    have d1 : decide (a ≤ (m : Int) + 1) = false := decide_eq_false (by omega)
    rw [go_head M l_truchmanlaw01_DocsBreaks_0.eq_1]
    simp (maxSteps := 3000000) (maxDischargeDepth := 6) +contextual -implicitDefEqProofs only [amC M, ↓amD, Nat.reduceBEq, Nat.reduceAdd, env, fargs, q_truchmanlaw01_DocsBreaks, hw, d1]
  | n + 1, a, He, h, ha => by
    have hw : IntKind.i64.wrap ((m : Int) + 1) = (m : Int) + 1 := wrap_i64 (by omega) (by omega)
    have hw2 : IntKind.i64.wrap (a + 1) = a + 1 := wrap_i64 (by omega) (by omega)
    have d1 : decide (a ≤ (m : Int) + 1) = true := decide_eq_true (by omega)
    have ih := fun He => bk0 hB hX hU hN (tr := tr) hi hx hrs hr1 hr2 hl ht hu hm (H := H) (H0 := H0) k n (a + 1) He (by omega) (by omega)
    simp only [kv_cons, kv_nil] at ih
    have f1 := fun H => run_dFits M hB hX hU hN hrs hr1 hr2 hl ht hu a H
    have f2 := fun H => run_rFits M hB hU hrs hr1 hr2 hl ht hu a H
    obtain ⟨b, e, hv⟩ := fitsV_shape r l.l a
    rw [hv] at f1 f2
    have hir := ias_row (row := Brk.row) (tag := tr) (sz := 3) (k := .i64) hi
    rw [go_head M l_truchmanlaw01_DocsBreaks_0.eq_1]
    simp (maxSteps := 3000000) (maxDischargeDepth := 6) +contextual -implicitDefEqProofs only [amC M, ↓amD, Nat.reduceBEq, Nat.reduceAdd, env, fargs, q_truchmanlaw01_DocsBreaks, hw, hw2, d1, hx, hir, qBrk, f1, f2, aextract, List.getElem?_cons_succ, ih, qreqB, Option.map_some, beq_self_eq_true]
theorem bk1 (hB : BasE E) (hX : ExtD M) (hU : BrkE E) (hN : UntE E) {rs : Sl Brk} (hrs : rs.ok 0 (Brk.ok 0)) (hst : strictF rs.l = false) {l : Sl Piece} (hl : l.l.length ≤ 100000) (ht : TxtOk l.l) (hu : (unL l.l).length ≤ 1000000) {m : Nat} (hm : m ≤ 1000000) {H H0 : List AObj} (k : List Fra) :
    ∀ (n i : Nat) (He : List AObj), i + n = min rs.l.length 4 →
    M.go a_truchmanlaw01_DocsBreaks H0 (.c l_truchmanlaw01_DocsBreaks_1 :: .lp ⟨(some [0, 1, 7, 11]), [], false⟩ l_truchmanlaw01_DocsBreaks_1 He :: .blk 0 :: .c (.lv []) :: k) (kv [(0, .slice rs.tag 3 (rs.l.map Brk.row)), (1, .slice l.tag 3 (l.l.map Piece.row)), (7, .int .i64 m), (11, .int .i64 i)]) H =
      M.go a_truchmanlaw01_DocsBreaks H0 k (kv []) H
  | 0, i, He, h => by
    by_cases hi : i < rs.l.length
    · have d1 : decide ((i : Int) < 4) = false := decide_eq_false (by omega)
      rw [go_head M l_truchmanlaw01_DocsBreaks_1.eq_1]
      simp (maxSteps := 3000000) (maxDischargeDepth := 6) +contextual -implicitDefEqProofs only [amC M, ↓amD, Nat.reduceBEq, Nat.reduceAdd, env, fargs, q_truchmanlaw01_DocsBreaks, hi, d1]
    · rw [go_head M l_truchmanlaw01_DocsBreaks_1.eq_1]
      simp (maxSteps := 3000000) (maxDischargeDepth := 6) +contextual -implicitDefEqProofs only [amC M, ↓amD, Nat.reduceBEq, Nat.reduceAdd, env, fargs, q_truchmanlaw01_DocsBreaks, hi]
  | n + 1, i, He, h => by
    have hi : i < rs.l.length := by omega
    have hx : rs.l[i]? = some rs.l[i] := List.getElem?_eq_getElem hi
    have d1 : decide ((i : Int) < 4) = true := decide_eq_true (by omega)
    have hwi := wrap_s (n := rs.l.length) hi hrs.len
    have hs := (strictF_small hst).2 i _ (by omega) hx
    have hr0 : (⟨.full, [rs.l[i]]⟩ : Sl Brk).ok 0 (Brk.ok 0) := ⟨trivial, by simp [maxL], fun x hx => by
      rw [List.mem_singleton] at hx; subst hx; exact hrs.all _ (List.getElem_mem hi)⟩
    have h0 := fun k He => bk0 M hB hX hU hN (tr := rs.tag) hi hx hr0 (by omega) (by omega) hl ht hu hm (H := H) (H0 := H0) k ((m : Int) + 2 - (-1)).toNat (-1) He rfl (by omega)
    have ih := fun He => bk1 hB hX hU hN hrs hst hl ht hu hm (H := H) (H0 := H0) k n (i + 1) He (by omega)
    simp only [kv_cons, kv_nil] at ih h0
    rw [go_head M l_truchmanlaw01_DocsBreaks_1.eq_1]
    simp (maxSteps := 3000000) (maxDischargeDepth := 6) +contextual -implicitDefEqProofs only [amC M, ↓amD, Nat.reduceBEq, Nat.reduceAdd, env, fargs, q_truchmanlaw01_DocsBreaks, hi, d1, hwi, h0, ih]
theorem run_DocsBreaks (hB : BasE E) (hX : ExtD M) (hU : BrkE E) (hN : UntE E) {rs : Sl Brk} (hrs : rs.ok 0 (Brk.ok 0)) {l : Sl Piece} (hl : l.ok 0 (Piece.ok 0)) {H : List AObj}
    (hL : ∀ H, M.run f_truchmanlaw01_reads [] H = some (.ret (.bool true), H)) : M.run f_truchmanlaw01_DocsBreaks [.slice rs.tag 3 (rs.l.map Brk.row), .slice l.tag 3 (l.l.map Piece.row)] H = some (.ret (.bool true), H) := by
  have s1 := fun H => run_strict M hU hrs H
  have s2 := fun H => run_long1 M hB hl H
  rw [run_c M hU.truchmanlaw01_DocsBreaks rfl (c := c_truchmanlaw01_DocsBreaks) rfl, c_truchmanlaw01_DocsBreaks]
  cases c1 : strictF rs.l with
  | true => simp (maxSteps := 3000000) (maxDischargeDepth := 6) +contextual -implicitDefEqProofs only [amC M, ↓amD, Nat.reduceBEq, Nat.reduceAdd, env, fargs, q_truchmanlaw01_DocsBreaks, s1, c1, hL]
  | false =>
  cases c2 : longF [l] with
  | true => simp (maxSteps := 3000000) (maxDischargeDepth := 6) +contextual -implicitDefEqProofs only [amC M, ↓amD, Nat.reduceBEq, Nat.reduceAdd, env, fargs, q_truchmanlaw01_DocsBreaks, amG, AV.cell, Nat.reduceMul, Nat.reduceLeDiff, s1, c1, s2, strip_slice, c2, hL]
  | false =>
  have hlong := longF_one c2
  have hpl := plainF_len l.l
  have hul := unL_len l.l
  have htx : TxtOk l.l := fun x hx => by have := txtN_mem hx; omega
  have hr := strictF_hr c1
  have hr0 := (strictF_small c1).1
  have p1 := fun H => run_Plain M hU (l := l.l) (tg := l.tag) hl.len (by omega) H
  cases c3 : decide ((400 : Int) < ((plainF l.l).length : Int)) with
  | true => simp (maxSteps := 3000000) (maxDischargeDepth := 6) +contextual -implicitDefEqProofs only [amC M, ↓amD, Nat.reduceBEq, Nat.reduceAdd, env, fargs, q_truchmanlaw01_DocsBreaks, amG, AV.cell, Nat.reduceMul, Nat.reduceLeDiff, s1, c1, s2, strip_slice, c2, p1, c3, hL]
  | false =>
  have u1 := fun H => run_dUnits M hB hX hU hN (l := l) (by omega) htx (by omega) H
  have u2 := fun H => run_rUnits M hB hU (l := l) (by omega) htx (by omega) H
  have b1 := fun H => run_dCheckBreaks M hB hX hU hrs (by omega) hr H
  have b2 := fun H => run_rCheckBreaks M hB hU hrs (by omega) hr H
  have v1 := fun H => run_dBreaks M hB hX hU hN hrs (by omega) hr (l := l) (by omega) htx (by omega) H
  have v2 := fun H => run_rBreaks M hB hU hrs (by omega) hr (l := l) (by omega) htx (by omega) H
  obtain ⟨o, e, hv, hol⟩ := breaksV_shape rs.l l.l
  rw [hv] at v1 v2
  have i1 := fun H => run_ints M hU (l := o) (ta := .any) (tb := .any) (by simp only [maxL]; omega) H
  obtain ⟨m, hm, hm2⟩ : ∃ m : Nat, (unitsF l.l).1 = (m : Int) ∧ m ≤ 1000000 := by
    unfold unitsF
    split
    · exact ⟨_, rfl, by omega⟩
    · exact ⟨0, rfl, by omega⟩
  rw [hm] at u1 u2
  have h1 := fun k He => bk1 M hB hX hU hN hrs c1 (l := l) (by omega) htx (by omega) hm2 (H := H) (H0 := H) k (min rs.l.length 4) 0 He (by omega)
  simp only [kv_cons, kv_nil, Int.ofNat_zero] at h1
  simp (maxSteps := 3000000) (maxDischargeDepth := 6) +contextual -implicitDefEqProofs only [amC M, ↓amD, Nat.reduceBEq, Nat.reduceAdd, env, fargs, q_truchmanlaw01_DocsBreaks, amG, AV.cell, Nat.reduceMul, Nat.reduceLeDiff, s1, c1, s2, strip_slice, c2, p1, c3, hL, u1, u2, b1, b2, v1, v2, i1, h1, aextract, List.getElem?_cons_succ, beq_self_eq_true]
end Go.Am
end

section
set_option maxRecDepth 100000
set_option linter.unusedVariables false
namespace Go.Am
open Go.RowKit Go.ChangeShapes Go.WideShapes

structure TypesOk (P : Program) : Prop where
  u_api_PieceKind : P.underlying t_api_PieceKind = some (.int .u8)
  c_api_PieceKind : P.cellsOf t_api_PieceKind = 1
  u_string : P.underlying t_string = some .string
  c_string : P.cellsOf t_string = 1
  u_bool : P.underlying t_bool = some .bool
  c_bool : P.cellsOf t_bool = 1
  f_Piece : fieldsOf P t_api_Piece = some [(0, t_api_PieceKind), (1, t_string), (2, t_bool)]
  c_Piece : P.cellsOf t_api_Piece = 3
  f_Brk : fieldsOf P t_api_Break = some [(0, t_string), (1, t_string), (2, t_bool)]
  c_Brk : P.cellsOf t_api_Break = 3
  u_sl_Brk : P.underlying t_sl_api_Break = some (.slice t_api_Break)
  c_sl_Brk : P.cellsOf t_sl_api_Break = 1
  y_Brk : Nat.blt 0 (P.bytesOf t_api_Break) = true
  u_sl_Piece : P.underlying t_sl_api_Piece = some (.slice t_api_Piece)
  c_sl_Piece : P.cellsOf t_sl_api_Piece = 1
  y_Piece : Nat.blt 0 (P.bytesOf t_api_Piece) = true
section
variable {P : Program} {W : World} {G : Nat → Option (List AV)}
theorem open_Piece (h : TypesOk P) : Opens P W G t_api_Piece Piece.row (Piece.ok 0) :=
  opens_struct h.f_Piece h.c_Piece (opensF_cons (opens_k h.u_api_PieceKind) h.c_api_PieceKind (opensF_cons (opens_str h.u_string) h.c_string (opensF_cons (opens_bool h.u_bool) h.c_bool (opensF_nil _)))) (fun a => ⟨a.1, a.2.1, a.2.2.1⟩) (fun a => rfl) (fun a ha => ⟨ha.2.1⟩)
theorem open_Brk (h : TypesOk P) : Opens P W G t_api_Break Brk.row (Brk.ok 0) :=
  opens_struct h.f_Brk h.c_Brk (opensF_cons (opens_str h.u_string) h.c_string (opensF_cons (opens_str h.u_string) h.c_string (opensF_cons (opens_bool h.u_bool) h.c_bool (opensF_nil _)))) (fun a => ⟨a.1, a.2.1, a.2.2.1⟩) (fun a => rfl) (fun a ha => ⟨ha.1, ha.2.1⟩)
theorem open_sl_Brk (h : TypesOk P) : Opens P W G t_sl_api_Break (fun s : Sl Brk => [.slice s.tag 3 (s.l.map Brk.row)]) (fun s => s.ok 0 (Brk.ok 0)) :=
  opens_slice h.u_sl_Brk h.c_Brk (by decide) (blt_pos h.y_Brk) (fun _ => by simp only [qBrk]) (open_Brk h)
theorem open_sl_Piece (h : TypesOk P) : Opens P W G t_sl_api_Piece (fun s : Sl Piece => [.slice s.tag 3 (s.l.map Piece.row)]) (fun s => s.ok 0 (Piece.ok 0)) :=
  opens_slice h.u_sl_Piece h.c_Piece (by decide) (blt_pos h.y_Piece) (fun _ => by simp only [qPiece]) (open_Piece h)
end
end Go.Am
end

section
set_option maxRecDepth 1000000
set_option linter.unusedVariables false
namespace Go.Am
open Go.Shelf Go.RowKit Go.Lib Go.Proofs

def utfLay_ren : Go.Shelf.Ren := ⟨fun | 197 => 110 | 260 => 148 | n => n, fun | 9 => 9 | 21 => 21 | 3 => 3 | 4 => 4 | 5 => 5 | 105 => 169 | 119 => 226 | 0 => 0 | 46 => 227 | 139 => 230 | 138 => 229 | n => n, fun | 3 => 0 | 4 => 1 | n => n⟩
theorem utfLay : Go.Proofs.Lays.n197 Tryz.prog utfLay_ren where
  mixed := by kernel_rfl
  f197 := Tryz.func110.trans (congrArg some (by kernel_rfl))
  f260 := Tryz.func148.trans (congrArg some (by kernel_rfl))
  t0 := Tryz.underlying0
  a0 := Tryz.isAgg0
  z0 := Tryz.sizeOf0
  v0 := Tryz.zeroValue0
  t3 := Tryz.underlying3
  a3 := Tryz.isAgg3
  z3 := Tryz.sizeOf3
  v3 := Tryz.zeroValue3
  t4 := Tryz.underlying4
  a4 := Tryz.isAgg4
  z4 := Tryz.sizeOf4
  v4 := Tryz.zeroValue4
  t5 := Tryz.underlying5
  a5 := Tryz.isAgg5
  z5 := Tryz.sizeOf5
  v5 := Tryz.zeroValue5
  t9 := Tryz.underlying9
  a9 := Tryz.isAgg9
  z9 := Tryz.sizeOf9
  v9 := Tryz.zeroValue9
  t21 := Tryz.underlying21
  a21 := Tryz.isAgg21
  z21 := Tryz.sizeOf21
  v21 := Tryz.zeroValue21
  t46 := Tryz.underlying227
  a46 := Tryz.isAgg227
  z46 := Tryz.sizeOf227
  v46 := Tryz.zeroValue227
  t105 := Tryz.underlying169
  a105 := Tryz.isAgg169
  z105 := Tryz.sizeOf169
  v105 := Tryz.zeroValue169
  t119 := Tryz.underlying226
  a119 := Tryz.isAgg226
  z119 := Tryz.sizeOf226
  t138 := Tryz.underlying229
  a138 := Tryz.isAgg229
  z138 := Tryz.sizeOf229
  v138 := Tryz.zeroValue229
  t139 := Tryz.underlying230
  a139 := Tryz.isAgg230
  z139 := Tryz.sizeOf230
  v139 := Tryz.zeroValue230
  g3 := by kernel_rfl
  g4 := by kernel_rfl

theorem dec_enters : ∀ args w, (callFunc 110 args).run Tryz.prog w = .ok (.enter 110 args) w := enters_of Tryz.func110 (by kernel_rfl) rfl
theorem dec_calls : ∀ (s : ByteArray) (w : World), Lib.Utf8Tabs 0 1 w → Calls Tryz.prog 110 #[.string s] w fun e w' => e = .returned (.tuple #[.int .i32 (Lib.decodeGo s).1, .int .i64 (Lib.decodeGo s).2]) ∧ Below w.heap.size w w' := fun s w hT => Any.utf8_DecodeRuneInString utfLay s w hT
theorem tabs_laid {W : World} (h3 : VarReads Tryz.prog W "unicode/utf8.first" firstData) (h4 : VarReads Tryz.prog W "unicode/utf8.acceptRanges" acceptData) : Lib.Utf8Tabs 0 1 W :=
  utf8Tabs_of_readsT (ρ := utfLay_ren) { utfLay with } ⟨by kernel_rfl, by kernel_rfl, by kernel_rfl, by kernel_rfl, by kernel_rfl, by kernel_rfl, by kernel_rfl⟩ h3 h4

end Go.Am
end

section
set_option maxRecDepth 1000000
namespace Go.Am
open Go.RowKit Go.Proofs

def ntabL0 : List (Nat × AFn) := [(3, a_truchmanlaw01_DocsBreaks), (4, a_truchmanlaw01_DocsFits), (9, a_truchmanlaw01_strict), (10, a_truchmanlaw01_long), (11, a_truchmanref01_Plain), (13, a_docs_Units), (14, a_truchmanref01_Units), (15, a_docs_CheckBreaks), (16, a_truchmanref01_CheckBreaks), (17, a_docs_Breaks), (18, a_truchmanref01_Breaks), (19, a_truchmanlaw01_ints)]
theorem ntabO0 : AllOk (CompOk Tryz.prog G0) ntabL0 := by repeat' first | (unfold CompOk; kernel_rfl) | exact trivial | refine ⟨?_, ?_⟩
def ntabL1 : List (Nat × AFn) := [(20, a_docs_Fits), (21, a_truchmanref01_Fits), (22, a_truchmanref01_CheckPieces), (25, a_truchmanref01_SamePieces), (44, a_docs_CheckPieces), (45, a_slices_Collect_docs_unit), (46, a_docs_units), (47, a_truchmanref01_units), (48, a_docs_compiled), (49, a_truchmanref01_fits), (50, a_truchmanref01_Text), (51, a_docs_places)]
theorem ntabO1 : AllOk (CompOk Tryz.prog G0) ntabL1 := by repeat' first | (unfold CompOk; kernel_rfl) | exact trivial | refine ⟨?_, ?_⟩
def ntabL2 : List (Nat × AFn) := [(52, a_truchmanref01_breaks), (53, a_docs_rule_fits), (54, a_truchmanref01_width), (55, a_truchmanref01_behind), (56, a_truchmanref01_alone), (57, a_truchmanref01_carried), (75, a_docs_isText), (80, a_docs_unit_word), (81, a_docs_unit_mark), (88, a_docs_carried_takes), (90, a_docs_isName), (91, a_docs_stack_string_pop)]
theorem ntabO2 : AllOk (CompOk Tryz.prog G0) ntabL2 := by repeat' first | (unfold CompOk; kernel_rfl) | exact trivial | refine ⟨?_, ?_⟩
def ntabL3 : List (Nat × AFn) := [(92, a_docs_stack_string_push), (93, a_slices_AppendSeq_docs_unit_docs_unit), (94, a_docs_units_1), (95, a_docs_items), (96, a_docs_ahead), (97, a_docs_behind), (98, a_truchmanref01_edge), (99, a_truchmanref01_one), (100, a_truchmanref01_Name), (117, a_docs_unit_letter), (118, a_docs_unit_digit), (119, a_docs_unit_blank)]
theorem ntabO3 : AllOk (CompOk Tryz.prog G0) ntabL3 := by repeat' first | (unfold CompOk; kernel_rfl) | exact trivial | refine ⟨?_, ?_⟩
def ntabL4 : List (Nat × AFn) := [(131, a_docs_items_1), (132, a_docs_items_2), (133, a_docs_items_3), (134, a_docs_items_4), (135, a_docs_items_5), (136, a_docs_items_6), (137, a_docs_edge), (138, a_truchmanref01_inWord), (139, a_truchmanref01_letter), (140, a_truchmanref01_digit), (141, a_truchmanref01_mark)]
theorem ntabO4 : AllOk (CompOk Tryz.prog G0) ntabL4 := by repeat' first | (unfold CompOk; kernel_rfl) | exact trivial | refine ⟨?_, ?_⟩
def ntabLs : List (Nat × List (Nat × AFn)) := [(19, ntabL0), (51, ntabL1), (91, ntabL2), (119, ntabL3), (141, ntabL4)]
def ntab (f : FuncId) : Option AFn := look2 ntabLs f
theorem ntab_ok : ∀ f af, ntab f = some af → CompOk Tryz.prog G0 f af := fun f af h => look2_ok (show AllOk2 _ ntabLs from ⟨ntabO0, ntabO1, ntabO2, ntabO3, ntabO4, trivial⟩) h

/-- The examples: run alone; runes: by the kit's contract. -/
def dorc (f : FuncId) (args : List AV) (H : List AObj) : Option Out :=
  match args with
  | [] => bif Nat.beq f f_truchmanlaw01_reads then some (.ret (.bool true), H) else none
  | [.str s] => bif Nat.beq f f_unicode_utf8_DecodeRuneInString then some (.ret (.tuple [.int .i32 ((decO s).1 : Nat), .int .i64 ((decO s).2 : Nat)]), H) else none
  | _ => xorc f args H
theorem dorc_ok {f : FuncId} {args : List AV} {H H' : List AObj} {r : ARes} (h : dorc f args H = some (r, H')) : ACalls Tryz.prog G0 f args H fun r2 H2 => r2 = r ∧ H2 = H' := by
  unfold dorc at h
  split at h
  · cases h1 : Nat.beq f f_truchmanlaw01_reads with
    | true => rw [h1] at h; cases h; rw [Nat.eq_of_beq_eq_true h1]; exact lives_ok H
    | false => rw [h1] at h; cases h
  · rename_i s
    cases h1 : Nat.beq f f_unicode_utf8_DecodeRuneInString with
    | true => rw [h1] at h; cases h; rw [Nat.eq_of_beq_eq_true h1]; exact ext_dec rfl dec_enters dec_calls s H
    | false => rw [h1] at h; cases h
  · exact xorc_ok h

noncomputable def EN : REnv := { P := Tryz.prog, G := G0, fn := ntab, orc := dorc, dfn := fun _ => none, seq := seq0, sar := fun _ => 1 }
theorem EN_ok : EN.Ok := ⟨x_mixed, fun f af h => ntab_ok f af h, (fun _ _ _ h => by cases h), (fun _ _ _ _ _ h => by cases h), fun _ _ _ _ _ h => dorc_ok h, (fun _ _ _ h => by cases h), seq0_ok⟩

end Go.Am
end

