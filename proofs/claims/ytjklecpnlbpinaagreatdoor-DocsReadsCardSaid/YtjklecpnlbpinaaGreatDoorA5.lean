import Derived.Test.YtjklecpnlbpinaaGreatDoorA4
import Derived.Test.YtjklecpnlbpinaaGreatDoorChecked
import Derived.Shelf.Unicode.DecodeAny
import Derived.Lib.LaidU8T
import Derived.KernelRfl
/-
  Part 5 of the tool: an abstract machine over the model, proved sound, and what it says of the functions that the law reaches. Condition: none but those that each theorem names.
-/
set_option linter.unusedVariables false
set_option linter.unusedSimpArgs false
section
set_option linter.unusedSimpArgs false
set_option linter.unusedVariables false
set_option maxRecDepth 100000
set_option maxHeartbeats 4000000
namespace Go.Am
open Go.RowKit
attribute [local congr] dsel_congr sel_c1 slc_cong gsel_congr go_congr aft_congr aftD_congr condR_congr backR_congr inR_congr at2_congr
variable {E : REnv} (M : Mach cdec E)

/-! Lists of pieces that are valid -/
def argE (x : Piece) : Bool := decide (x.kind < 1) || decide (5 < x.kind)
def carE (x : Piece) : Bool := x.car && !(x.kind == 2) && !(x.kind == 3)
def frmE (p : Bool) (x : Piece) : Bool := (x.kind == 1) && ((x.text == []) || !textF x.text || p)
def namE (x : Piece) : Bool := !(x.kind == 1) && !nameD x.text
def stP (x : Piece) (st : List Str) : List Str := if (x.kind == 3) = true then st.tail else st
def chkL : List Piece → Bool → Bool → Bool → List Str → Int
  | [], _, _, _, st => sel (decide ((0 : Int) < (st.length : Int))) 9 0
  | x :: l, p, b, e, st => sel (argE x) 1 (sel (carE x) 1 (sel (frmE p x) 4 (sel (namE x) 5 (sel (takesB b e x) (sel ((x.kind == 3) && !popB st x.text) 9
      (sel (x.kind == 2) (sel (decide ((16 : Int) < ((x.text :: stP x st).length : Int))) 3 (chkL l (x.kind == 1) (b || !opensP x) (e || closesP x) (x.text :: stP x st)))
        (chkL l (x.kind == 1) (b || !opensP x) (e || closesP x) (stP x st)))) 8))))
def dP : Piece := ⟨0, [], false⟩
def prevT (l : List Piece) (i : Nat) : Bool := decide ((0 : Int) < (i : Int)) && ((l.getD (i - 1) dP).kind == 1)
theorem prevT_succ {l : List Piece} {i : Nat} {x : Piece} (h : l[i]? = some x) : prevT l (i + 1) = (x.kind == 1) := by
  have h1 : decide ((0 : Int) < ((i + 1 : Nat) : Int)) = true := decide_eq_true (by omega)
  simp [prevT, h1, List.getD, h]
theorem prevT_zero (l : List Piece) : prevT l 0 = false := rfl
abbrev TxtOk (l : List Piece) : Prop := ∀ x ∈ l, x.text.length ≤ 70368744177664

theorem ckl (hB : BasE E) (hX : ExtD M) {l : List Piece} {tg : Tag} (hl : l.length ≤ 1000000) (ht : TxtOk l) {H0 : List AObj} {bd p c : Nat} (hp0 : H0.length ≤ p) (hc0 : H0.length ≤ c) (hpb : p < bd) (hcb : c < bd) (hpc : p ≠ c) {k : List Fra}
    (hk : ∀ (G : List AObj) (v : AV) (st : List Str), G[p]? = some (.cells [v] t_docs_stack_string) → StkV bd G v st → Pre H0 G → M.go a_docs_CheckPieces H0 k (kv [(3, .ptr p 0)]) G = some (.ret (.int .u8 (sel (decide ((0 : Int) < (st.length : Int))) 9 0)), H0)) :
    ∀ (n i : Nat) (G He : List AObj) (v : AV) (st : List Str) (b e : Bool), i + n = l.length → Pre H0 G → bd ≤ G.length → G[p]? = some (.cells [v] t_docs_stack_string) → G[c]? = some (.cells [.bool b, .bool e] t_docs_carried) → StkV bd G v st → st.length ≤ 16 →
    M.go a_docs_CheckPieces H0 (.c l_docs_CheckPieces_0 :: .lp ⟨(some [0, 3, 4, 10, 11, 12]), [], false⟩ l_docs_CheckPieces_0 He :: .blk 0 :: .c (.lv [3]) :: k) (kv [(0, .slice tg 3 (l.map Piece.row)), (3, .ptr p 0), (4, .ptr c 0), (10, .slice tg 3 (l.map Piece.row)), (11, .int .i64 l.length), (12, .int .i64 i)]) G =
      some (.ret (.int .u8 (chkL (l.drop i) (prevT l i) b e st)), H0) := by
  intro n
  induction n with
  | zero =>
    intro i G He v st b e h hP hb hgp hgc hst h16
    obtain rfl : i = l.length := by omega
    rw [List.drop_length, chkL]
    have hk1 := hk G v st hgp hst hP
    simp only [kv_cons, kv_nil] at hk1
    rw [go_head M l_docs_CheckPieces_0.eq_1]
    simp (maxSteps := 3000000) (maxDischargeDepth := 6) +contextual -implicitDefEqProofs only [amC M, ↓amD, Nat.reduceBEq, Nat.reduceAdd, env, fargs, q_docs_CheckPieces, Nat.lt_irrefl, hk1]
  | succ n IH =>
    intro i G He v st b e h hP hb hgp hgc hst h16
    have hi : i < l.length := by omega
    have hx : l[i]? = some l[i] := List.getElem?_eq_getElem hi
    have hd : l.drop i = l[i] :: l.drop (i + 1) := List.drop_eq_getElem_cons hi
    have htx := ht _ (List.getElem_mem hi)
    have hsu := prevT_succ hx
    rw [hd]
    generalize l[i] = x at *
    have htm : x.text.length ≤ maxL := by simp only [maxL]; omega
    have hws := wrap_s hi (show l.length ≤ maxL by simp only [maxL]; omega)
    have hw1 : decide ((0 : Int) < (i : Int)) = true → IntKind.i64.wrap ((i : Int) - 1) = ((i - 1 : Nat) : Int) := fun h0 => wrap_p1 (by have := of_decide_eq_true h0; omega) (by simp only [maxL]; omega)
    have hi1 : i - 1 < l.length := by omega
    have hx1 : l[i - 1]? = some (l.getD (i - 1) dP) := by rw [List.getD, List.getElem?_eq_getElem hi1]; rfl
    have hia : ∀ k : IntKind, rias 3 (.slice tg 3 (l.map Piece.row)) (.int k ((i - 1 : Nat) : Int)) = some (.vptr 3 (l.map Piece.row) (i - 1) 0) := fun k => ias_row hi1
    have hT := fun H => run_isText M hB hX htm H
    have hN := fun H => run_isName M hB htm H
    have hct : ∀ L, CutOk H0 (G ++ L) := fun L => (hP.app L).cut
    have htk : ∀ L, (G ++ L).take H0.length = H0 := fun L => (hP.app L).take
    have hgx : ∀ T, (G ++ [AObj.cells x.row T])[G.length]? = some (.cells x.row T) := fun T => by rw [hp_get0]; rfl
    rw [chkL]
    cases ha : argE x with
    | true =>
      have ha' : (decide (x.kind < 1) || decide (5 < x.kind)) = true := ha
      rw [go_head M l_docs_CheckPieces_0.eq_1]
      simp (maxSteps := 3000000) (maxDischargeDepth := 6) +contextual -implicitDefEqProofs only [amC M, ↓amD, Nat.reduceBEq, Nat.reduceAdd, env, fargs, q_docs_CheckPieces, amG, AV.cell, Nat.reduceMul, Nat.reduceLeDiff, hi, hx, ias_row hi, qPiece, hp_get0, ha', hct, htk]
    | false =>
      have ha' : (decide (x.kind < 1) || decide (5 < x.kind)) = false := ha
      simp only [sel_false]
      cases hc : carE x with
      | true =>
        have hc' : (x.car && !(x.kind == 2) && !(x.kind == 3)) = true := hc
        rw [go_head M l_docs_CheckPieces_0.eq_1]
        simp (maxSteps := 3000000) (maxDischargeDepth := 6) +contextual -implicitDefEqProofs only [amC M, ↓amD, Nat.reduceBEq, Nat.reduceAdd, env, fargs, q_docs_CheckPieces, amG, AV.cell, Nat.reduceMul, Nat.reduceLeDiff, hi, hx, ias_row hi, qPiece, hp_get0, ha', hc', hct, htk]
      | false =>
        have hc' : (x.car && !(x.kind == 2) && !(x.kind == 3)) = false := hc
        simp only [sel_false]
        cases hf : frmE (prevT l i) x with
        | true =>
          have hf' : ((x.kind == 1) && ((x.text == []) || !textF x.text || (decide ((0 : Int) < (i : Int)) && ((l.getD (i - 1) dP).kind == 1)))) = true := hf
          rw [go_head M l_docs_CheckPieces_0.eq_1]
          simp (maxSteps := 3000000) (maxDischargeDepth := 6) +contextual -implicitDefEqProofs only [amC M, ↓amD, Nat.reduceBEq, Nat.reduceAdd, env, fargs, q_docs_CheckPieces, amG, AV.cell, Nat.reduceMul, Nat.reduceLeDiff, hi, hx, ias_row hi, qPiece, hp_get0, ha', hc', hf', hT, hw1, hia, hx1, hct, htk]
        | false =>
          have hf' : ((x.kind == 1) && ((x.text == []) || !textF x.text || (decide ((0 : Int) < (i : Int)) && ((l.getD (i - 1) dP).kind == 1)))) = false := hf
          simp only [sel_false]
          cases hn : namE x with
          | true =>
            have hn' : (!(x.kind == 1) && !nameD x.text) = true := hn
            rw [go_head M l_docs_CheckPieces_0.eq_1]
            simp (maxSteps := 3000000) (maxDischargeDepth := 6) +contextual -implicitDefEqProofs only [amC M, ↓amD, Nat.reduceBEq, Nat.reduceAdd, env, fargs, q_docs_CheckPieces, amG, AV.cell, Nat.reduceMul, Nat.reduceLeDiff, hi, hx, ias_row hi, qPiece, hp_get0, ha', hc', hf', hT, hw1, hia, hx1, hct, htk, hn', hN]
          | false =>
            have hn' : (!(x.kind == 1) && !nameD x.text) = false := hn
            simp only [sel_false]
            have hcl := lt_get hgc
            have htak := run_takes M hB (c := c) (b := b) (e := e) (T := t_docs_carried) (G := G ++ [.cells x.row t_api_Piece]) (hp_getl hgc) x
            cases htb : takesB b e x with
            | false =>
              simp only [htb, Bool.false_eq_true, if_false] at htak
              rw [go_head M l_docs_CheckPieces_0.eq_1]
              simp (maxSteps := 3000000) (maxDischargeDepth := 6) +contextual -implicitDefEqProofs only [amC M, ↓amD, Nat.reduceBEq, Nat.reduceAdd, env, fargs, q_docs_CheckPieces, amG, AV.cell, Nat.reduceMul, Nat.reduceLeDiff, hi, hx, ias_row hi, qPiece, hp_get0, ha', hc', hf', hT, hw1, hia, hx1, hct, htk, hn', hN, htak]
            | true =>
              simp only [htb, if_true] at htak
              simp only [sel_true]
              have hcl2 : c < (G ++ [AObj.cells x.row t_api_Piece]).length := by simp; omega
              have hne : c ≠ G.length := by omega
              have q1 : ((G ++ [AObj.cells x.row t_api_Piece]).set c (.cells [.bool (b || !opensP x), .bool (e || closesP x)] t_docs_carried))[p]? = some (.cells [v] t_docs_stack_string) := by
                rw [List.getElem?_set_ne (by omega)]; exact hp_getl hgp
              have q2 : ((G ++ [AObj.cells x.row t_api_Piece]).set c (.cells [.bool (b || !opensP x), .bool (e || closesP x)] t_docs_carried))[c]? = some (.cells [.bool (b || !opensP x), .bool (e || closesP x)] t_docs_carried) := List.getElem?_set_self hcl2
              have q3 : ((G ++ [AObj.cells x.row t_api_Piece]).set c (.cells [.bool (b || !opensP x), .bool (e || closesP x)] t_docs_carried))[G.length]? = some (.cells x.row t_api_Piece) := by
                rw [List.getElem?_set_ne hne, hp_get0]; rfl
              have q4 : Pre H0 ((G ++ [AObj.cells x.row t_api_Piece]).set c (.cells [.bool (b || !opensP x), .bool (e || closesP x)] t_docs_carried)) := (hP.app _).set hc0 _
              have q5 : StkV bd ((G ++ [AObj.cells x.row t_api_Piece]).set c (.cells [.bool (b || !opensP x), .bool (e || closesP x)] t_docs_carried)) v st := hst.stay fun j hj hj2 => by
                rw [List.getElem?_set_ne (by omega), List.getElem?_append_left hj2]
              have q6 : bd ≤ ((G ++ [AObj.cells x.row t_api_Piece]).set c (.cells [.bool (b || !opensP x), .bool (e || closesP x)] t_docs_carried)).length := by simp; omega
              have q7 : p ≠ G.length := by have := lt_get hgp; omega
              generalize (G ++ [AObj.cells x.row t_api_Piece]).set c (.cells [.bool (b || !opensP x), .bool (e || closesP x)] t_docs_carried) = G2 at htak q1 q2 q3 q4 q5 q6
              have hct2 := q4.cut
              have htk2 := q4.take
              cases h3 : x.kind == 3 with
              | true =>
                have h2 : (x.kind == 2) = false := by
                  have : x.kind = 3 := by simpa using h3
                  rw [this]; rfl
                obtain ⟨v3, G3, p1, p2, p3, p4, p5⟩ := run_pop M hB q1 hpb q6 q5 (by omega) x.text
                cases hpo : popB st x.text with
                | false =>
                  rw [hpo] at p1
                  have hP3 : Pre H0 G3 := ⟨by rw [p4]; exact q4.1, fun j hj => by rw [p5 j (by omega)]; exact q4.2 j hj⟩
                  have c3 := hP3.cut
                  have t3 := hP3.take
                  rw [go_head M l_docs_CheckPieces_0.eq_1]
                  simp (maxSteps := 3000000) (maxDischargeDepth := 6) +contextual -implicitDefEqProofs only [amC M, ↓amD, Nat.reduceBEq, Nat.reduceAdd, env, fargs, q_docs_CheckPieces, amG, AV.cell, Nat.reduceMul, Nat.reduceLeDiff, hi, hx, ias_row hi, qPiece, hp_get0, ha', hc', hf', hT, hw1, hia, hx1, hct, htk, hn', hN, htak, q3, h3, p1, c3, t3]
                | true =>
                  rw [hpo] at p1
                  simp only [hpo, if_true] at p3
                  have hP3 : Pre H0 G3 := ⟨by rw [p4]; exact q4.1, fun j hj => by rw [p5 j (by omega)]; exact q4.2 j hj⟩
                  have g3 : G3[G.length]? = some (.cells x.row t_api_Piece) := by rw [p5 _ (by omega)]; exact q3
                  have hstp : stP x st = st.tail := if_pos h3
                  have ih := fun He => IH (i + 1) G3 He v3 st.tail (b || !opensP x) (e || closesP x) (by omega) hP3 (by omega) p2 (by rw [p5 c (by omega)]; exact q2) p3 (by simp; omega)
                  rw [hsu] at ih
                  simp only [kv_cons, kv_nil] at ih
                  rw [go_head M l_docs_CheckPieces_0.eq_1]
                  simp (maxSteps := 3000000) (maxDischargeDepth := 6) +contextual -implicitDefEqProofs only [amC M, ↓amD, Nat.reduceBEq, Nat.reduceAdd, env, fargs, q_docs_CheckPieces, amG, AV.cell, Nat.reduceMul, Nat.reduceLeDiff, hi, hx, ias_row hi, qPiece, hp_get0, ha', hc', hf', hT, hw1, hia, hx1, hct, htk, hn', hN, htak, q3, h3, h2, p1, g3, hstp, hws, ih]
              | false =>
                have hstp : stP x st = st := if_neg (by rw [h3]; simp)
                cases h2 : x.kind == 2 with
                | false =>
                  have hc2 : x.car = false := by rw [h2, h3] at hc'; simpa using hc'
                  have ih := fun He => IH (i + 1) G2 He v st (b || !opensP x) (e || closesP x) (by omega) q4 q6 q1 q2 q5 h16
                  rw [hsu] at ih
                  simp only [kv_cons, kv_nil] at ih
                  rw [go_head M l_docs_CheckPieces_0.eq_1]
                  simp (maxSteps := 3000000) (maxDischargeDepth := 6) +contextual -implicitDefEqProofs only [amC M, ↓amD, Nat.reduceBEq, Nat.reduceAdd, env, fargs, q_docs_CheckPieces, amG, AV.cell, Nat.reduceMul, Nat.reduceLeDiff, hi, hx, ias_row hi, qPiece, hp_get0, ha', hc', hf', hT, hw1, hia, hx1, hct, htk, hn', hN, htak, q3, h3, h2, hc2, hstp, hws, ih]
                | true =>
                  obtain ⟨v3, G3, p1, p2, p3, p4⟩ := run_push M hB q1 hpb q6 q5 (by omega) x.text
                  have hP3 : Pre H0 G3 := p4.pre q4 (by omega) hp0
                  have c3 := hP3.cut
                  have t3 := hP3.take
                  have hlen := len_stk p3
                  have l0 : ∀ x : AV, rload none [x] 0 = some x := fun _ => rfl
                  have hlen2 : ∀ H, rlen H .sl v3 = some (.int .i64 ((st.length + 1 : Nat) : Int)) := hlen
                  cases hgt : decide ((16 : Int) < ((x.text :: stP x st).length : Int)) with
                  | true =>
                    have hgt2 : decide ((16 : Int) < ((st.length + 1 : Nat) : Int)) = true := by rw [← hgt, hstp]; rfl
                    rw [go_head M l_docs_CheckPieces_0.eq_1]
                    simp (maxSteps := 3000000) (maxDischargeDepth := 6) +contextual -implicitDefEqProofs only [amC M, ↓amD, Nat.reduceBEq, Nat.reduceAdd, env, fargs, q_docs_CheckPieces, amG, AV.cell, Nat.reduceMul, Nat.reduceLeDiff, hi, hx, ias_row hi, qPiece, hp_get0, ha', hc', hf', hT, hw1, hia, hx1, hct, htk, hn', hN, htak, q3, h3, h2, p1, p2, l0, hlen2, hgt2, c3, t3]
                  | false =>
                    have hgt2 : decide ((16 : Int) < ((st.length + 1 : Nat) : Int)) = false := by rw [← hgt, hstp]; rfl
                    have hle : (x.text :: st).length ≤ 16 := by have := of_decide_eq_false hgt2; simp only [List.length_cons]; omega
                    have ih := fun He => IH (i + 1) G3 He v3 (x.text :: st) (b || !opensP x) (e || closesP x) (by omega) hP3 (by have := p4.1; omega) p2 (by rw [p4.2 c hcb (by omega)]; exact q2) p3 hle
                    rw [hsu] at ih
                    simp only [kv_cons, kv_nil] at ih
                    rw [go_head M l_docs_CheckPieces_0.eq_1]
                    simp (maxSteps := 3000000) (maxDischargeDepth := 6) +contextual -implicitDefEqProofs only [amC M, ↓amD, Nat.reduceBEq, Nat.reduceAdd, env, fargs, q_docs_CheckPieces, amG, AV.cell, Nat.reduceMul, Nat.reduceLeDiff, hi, hx, ias_row hi, qPiece, hp_get0, ha', hc', hf', hT, hw1, hia, hx1, hct, htk, hn', hN, htak, q3, h3, h2, p1, p2, l0, hlen2, hgt2, hstp, hws, ih]
def checkP (l : List Piece) : Int := sel (decide ((512 : Int) < (l.length : Int))) 3 (chkL l false false false [])
theorem run_CheckPieces (hB : BasE E) (hX : ExtD M) {l : Sl Piece} (hl : l.l.length ≤ 1000000) (ht : TxtOk l.l) (H : List AObj) :
    M.run f_docs_CheckPieces [.slice l.tag 3 (l.l.map Piece.row)] H = some (.ret (.int .u8 (checkP l.l)), H) := by
  rw [run_c M hB.docs_CheckPieces rfl (c := c_docs_CheckPieces) rfl, c_docs_CheckPieces]
  cases h5 : decide ((512 : Int) < (l.l.length : Int)) with
  | true => simp (maxSteps := 3000000) (maxDischargeDepth := 6) +contextual -implicitDefEqProofs only [amC M, ↓amD, Nat.reduceBEq, Nat.reduceAdd, env, fargs, q_docs_CheckPieces, h5, checkP]
  | false =>
    have hlp := fun k hk He => ckl M hB hX (tg := l.tag) hl ht (H0 := H) (bd := H.length + 2) (p := H.length) (c := H.length + 1) (Nat.le_refl _) (by omega) (by omega) (by omega) (by omega) (k := k) hk l.l.length 0 (H ++ [.cells [.slice .nil 1 []] t_docs_stack_string, .cells [.bool false, .bool false] t_docs_carried]) He (.slice .nil 1 []) [] false false (by omega) ((Pre.refl H).app _) (by simp) (by rw [hp_get0]; rfl) (by rw [hp_getk]; rfl) (.inl ⟨rfl, rfl⟩) (by simp)
    simp only [kv_cons, kv_nil, Int.ofNat_zero, List.drop_zero, prevT_zero] at hlp
    have l0 : ∀ x : AV, rload none [x] 0 = some x := fun _ => rfl
    simp (maxSteps := 3000000) (maxDischargeDepth := 6) +contextual -implicitDefEqProofs only [amC M, ↓amD, Nat.reduceBEq, Nat.reduceAdd, env, fargs, q_docs_CheckPieces, h5, checkP]
    refine hlp _ (fun G v st hg hs hP => ?_) _
    have hlen := len_stk hs
    have hct := hP.cut
    have htk := hP.take
    simp (maxSteps := 3000000) (maxDischargeDepth := 6) +contextual -implicitDefEqProofs only [amC M, ↓amD, Nat.reduceBEq, Nat.reduceAdd, env, fargs, q_docs_CheckPieces, hg, l0, hlen, hct, htk]
end Go.Am
end

section
set_option linter.unusedSimpArgs false
set_option linter.unusedVariables false
set_option maxRecDepth 100000
set_option maxHeartbeats 4000000
namespace Go.Am
open Go.RowKit
attribute [local congr] dsel_congr sel_c1 slc_cong gsel_congr go_congr aft_congr aftD_congr condR_congr backR_congr inR_congr at2_congr
variable {E : REnv} (M : Mach cdec E)

theorem slc_or {α : Type} (b p : Bool) (x y : α) : slc b y (slc p y x) = slc (b || p) y x := by cases b <;> rfl
def aloneE (p : Bool) (x : Piece) : Int := sel (argE x) 1 (sel (carE x) 1 (sel (frmE p x) 4 (sel (namE x) 5 0)))
theorem run_alone (hB : BasE E) {l : List Piece} {tg : Tag} (hl : l.length ≤ 1000000) (ht : TxtOk l) {i : Nat} {x : Piece} (hx : l[i]? = some x) (H : List AObj) :
    M.run f_truchmanref01_alone [.slice tg 3 (l.map Piece.row), .int .i64 i] H = some (.ret (.int .u8 (aloneE (prevT l i) x)), H) := by
  have hi : i < l.length := (List.getElem?_eq_some_iff.1 hx).1
  have htx := ht _ (List.mem_of_getElem? hx)
  have htm : x.text.length ≤ maxL := by simp only [maxL]; omega
  have hw1 : decide ((0 : Int) < (i : Int)) = true → IntKind.i64.wrap ((i : Int) - 1) = ((i - 1 : Nat) : Int) := fun h0 => wrap_p1 (by have := of_decide_eq_true h0; omega) (by simp only [maxL]; omega)
  have hi1 : i - 1 < l.length := by omega
  have hx1 : l[i - 1]? = some (l.getD (i - 1) dP) := by rw [List.getD, List.getElem?_eq_getElem hi1]; rfl
  have hia : ∀ k : IntKind, rias 3 (.slice tg 3 (l.map Piece.row)) (.int k ((i - 1 : Nat) : Int)) = some (.vptr 3 (l.map Piece.row) (i - 1) 0) := fun k => ias_row hi1
  have hT := fun H => run_Text M hB htx H
  have hN := fun H => run_Name M hB htm H
  rw [run_c M hB.truchmanref01_alone rfl (c := c_truchmanref01_alone) rfl, c_truchmanref01_alone]
  simp (maxSteps := 3000000) (maxDischargeDepth := 6) +contextual -implicitDefEqProofs only [amC M, ↓amD, Nat.reduceBEq, Nat.reduceAdd, env, fargs, q_truchmanref01_alone, amG, AV.cell, Nat.reduceMul, Nat.reduceLeDiff, hi, hx, ias_row hi, qPiece, hp_get0, hT, hN, hw1, hia, hx1, cut_app, hp_take, aloneE, argE, carE, frmE, namE, prevT]

/-! Where carried tags stand -/
def cw (x y : Piece) : Bool := opensP x && !opensP y || closesP y && !closesP x
theorem rdcl {l : List Piece} {tg : Tag} (hl : l.length ≤ 1000000) {i : Nat} {x : Piece} (hx : l[i]? = some x) {H H0 : List AObj} (hc : CutOk H0 H) (k : List Fra) : ∀ (n j : Nat) (He : List AObj), j + n = i →
    M.go a_truchmanref01_carried H0 (.c l_truchmanref01_carried_0 :: .lp ⟨(some [0, 1, 5]), [], false⟩ l_truchmanref01_carried_0 He :: .blk 0 :: .c (.lv []) :: k) (kv [(0, .slice tg 3 (l.map Piece.row)), (1, .int .i64 i), (5, .int .i64 j)]) H =
      sel (((l.take i).drop j).any (cw x)) (some (.ret (.int .u8 8), H.take H0.length)) (M.go a_truchmanref01_carried H0 k .leaf H)
  | 0, j, He, h => by
    obtain rfl : j = i := by omega
    have e : (l.take j).drop j = [] := List.drop_of_length_le (by simp; omega)
    rw [go_head M l_truchmanref01_carried_0.eq_1]
    simp (maxSteps := 3000000) (maxDischargeDepth := 6) +contextual -implicitDefEqProofs only [amC M, ↓amD, Nat.reduceBEq, Nat.reduceAdd, env, fargs, q_truchmanref01_carried, Nat.lt_irrefl, e, List.any_nil]
  | n + 1, j, He, h => by
    have hi : i < l.length := (List.getElem?_eq_some_iff.1 hx).1
    have hki : j < i := by omega
    have hkl : j < l.length := by omega
    have hy : l[j]? = some l[j] := List.getElem?_eq_getElem hkl
    have hd : (l.take i).drop j = l[j] :: (l.take i).drop (j + 1) := by
      rw [List.drop_eq_getElem_cons (by simp; omega), List.getElem_take]
    have ih := fun He => rdcl (tg := tg) hl hx hc k n (j + 1) He (by omega)
    have hws : IntKind.i64.wrap ((j : Int) + 1) = ((j + 1 : Nat) : Int) := wrap_s hkl (show l.length ≤ maxL by simp only [maxL]; omega)
    rw [hd, List.any_cons]
    generalize l[j] = y at hy
    have e1 : (y.car && (y.kind == 2)) = opensP y := Bool.and_comm _ _
    have e2 : (y.car && (y.kind == 3)) = closesP y := Bool.and_comm _ _
    have e3 : (x.car && (x.kind == 2)) = opensP x := Bool.and_comm _ _
    have e4 : (x.car && (x.kind == 3)) = closesP x := Bool.and_comm _ _
    simp only [kv_cons, kv_nil] at ih
    rw [go_head M l_truchmanref01_carried_0.eq_1]
    simp (maxSteps := 3000000) (maxDischargeDepth := 6) +contextual -implicitDefEqProofs only [amC M, ↓amD, Nat.reduceBEq, Nat.reduceAdd, env, fargs, q_truchmanref01_carried, hki, hx, hy, hi, hkl, ias_row hi, ias_row hkl, qPiece, hws, e1, e2, e3, e4, ih, hc, cw, slc_or, Bool.or_assoc]
def begF (l : List Piece) (i : Nat) : Bool := (l.take i).any fun y => !opensP y
def endF (l : List Piece) (i : Nat) : Bool := (l.take i).any closesP
theorem any_cw (x : Piece) : ∀ l : List Piece, l.any (cw x) = (opensP x && (l.any fun y => !opensP y) || l.any closesP && !closesP x)
  | [] => by simp
  | y :: l => by
    simp only [List.any_cons, any_cw x l, cw]
    cases opensP x <;> cases opensP y <;> cases closesP y <;> cases closesP x <;> simp
theorem run_carried (hB : BasE E) {l : List Piece} {tg : Tag} (hl : l.length ≤ 1000000) {i : Nat} {x : Piece} (hx : l[i]? = some x) (H : List AObj) :
    M.run f_truchmanref01_carried [.slice tg 3 (l.map Piece.row), .int .i64 i] H = some (.ret (.int .u8 (sel (takesB (begF l i) (endF l i) x) 0 8)), H) := by
  rw [run_c M hB.truchmanref01_carried rfl (c := c_truchmanref01_carried) rfl, c_truchmanref01_carried]
  have hlp := fun k He => rdcl M (tg := tg) hl hx (cut_refl H) k i 0 He (by omega)
  simp only [kv_cons, kv_nil, Int.ofNat_zero, List.drop_zero, any_cw] at hlp
  have e : takesB (begF l i) (endF l i) x = !(opensP x && ((l.take i).any fun y => !opensP y) || (l.take i).any closesP && !closesP x) := rfl
  rw [e]
  simp (maxSteps := 3000000) (maxDischargeDepth := 6) +contextual -implicitDefEqProofs only [amC M, ↓amD, Nat.reduceBEq, Nat.reduceAdd, env, fargs, q_truchmanref01_carried, hlp]
theorem begF_succ {l : List Piece} {i : Nat} {x : Piece} (h : l[i]? = some x) : begF l (i + 1) = (begF l i || !opensP x) := by
  unfold begF; rw [List.take_add_one, h, List.any_append]; simp
theorem endF_succ {l : List Piece} {i : Nat} {x : Piece} (h : l[i]? = some x) : endF l (i + 1) = (endF l i || closesP x) := by
  unfold endF; rw [List.take_add_one, h, List.any_append]; simp

theorem rckl (hB : BasE E) {l : List Piece} {tg : Tag} (hl : l.length ≤ 1000000) (ht : TxtOk l) {H0 : List AObj} {k : List Fra}
    (hk : ∀ (G : List AObj) (v : AV) (st : List Str), StkV H0.length G v st → Pre H0 G → M.go a_truchmanref01_CheckPieces H0 k (kv [(3, v)]) G = some (.ret (.int .u8 (sel (decide ((0 : Int) < (st.length : Int))) 9 0)), H0)) :
    ∀ (n i : Nat) (G He : List AObj) (v : AV) (st : List Str), i + n = l.length → Pre H0 G → StkV H0.length G v st → st.length ≤ 16 →
    M.go a_truchmanref01_CheckPieces H0 (.c l_truchmanref01_CheckPieces_0 :: .lp ⟨(some [0, 3, 4]), [], false⟩ l_truchmanref01_CheckPieces_0 He :: .blk 0 :: .c (.lv [3]) :: k) (kv [(0, .slice tg 3 (l.map Piece.row)), (3, v), (4, .int .i64 i)]) G =
      some (.ret (.int .u8 (chkL (l.drop i) (prevT l i) (begF l i) (endF l i) st)), H0) := by
  intro n
  induction n with
  | zero =>
    intro i G He v st h hP hst h16
    obtain rfl : i = l.length := by omega
    rw [List.drop_length, chkL]
    have hk1 := hk G v st hst hP
    simp only [kv_cons, kv_nil] at hk1
    rw [go_head M l_truchmanref01_CheckPieces_0.eq_1]
    simp (maxSteps := 3000000) (maxDischargeDepth := 6) +contextual -implicitDefEqProofs only [amC M, ↓amD, Nat.reduceBEq, Nat.reduceAdd, env, fargs, q_truchmanref01_CheckPieces, Nat.lt_irrefl, hk1]
  | succ n IH =>
    intro i G He v st h hP hst h16
    have hi : i < l.length := by omega
    have hx : l[i]? = some l[i] := List.getElem?_eq_getElem hi
    have hd : l.drop i = l[i] :: l.drop (i + 1) := List.drop_eq_getElem_cons hi
    have hsu := prevT_succ hx
    have hbs := begF_succ hx
    have hes := endF_succ hx
    rw [hd]
    generalize l[i] = x at *
    have hws := wrap_s hi (show l.length ≤ maxL by simp only [maxL]; omega)
    have hA := fun H => run_alone M hB (tg := tg) hl ht hx H
    have hC := fun H => run_carried M hB (tg := tg) hl hx H
    have hct := hP.cut
    have htk := hP.take
    have hlen := len_stk hst
    rw [chkL]
    cases ha : argE x with
    | true =>
      have e : aloneE (prevT l i) x = 1 := by rw [aloneE, ha]; rfl
      rw [go_head M l_truchmanref01_CheckPieces_0.eq_1]
      simp (maxSteps := 3000000) (maxDischargeDepth := 6) +contextual -implicitDefEqProofs only [amC M, ↓amD, Nat.reduceBEq, Nat.reduceAdd, env, fargs, q_truchmanref01_CheckPieces, hi, hx, hA, e, hct, htk, (show ((1 : Int) == 0) = false from rfl)]
    | false =>
    simp only [sel_false]
    cases hca : carE x with
    | true =>
      have e : aloneE (prevT l i) x = 1 := by rw [aloneE, ha, hca]; rfl
      rw [go_head M l_truchmanref01_CheckPieces_0.eq_1]
      simp (maxSteps := 3000000) (maxDischargeDepth := 6) +contextual -implicitDefEqProofs only [amC M, ↓amD, Nat.reduceBEq, Nat.reduceAdd, env, fargs, q_truchmanref01_CheckPieces, hi, hx, hA, e, hct, htk, (show ((1 : Int) == 0) = false from rfl)]
    | false =>
    simp only [sel_false]
    cases hf : frmE (prevT l i) x with
    | true =>
      have e : aloneE (prevT l i) x = 4 := by rw [aloneE, ha, hca, hf]; rfl
      rw [go_head M l_truchmanref01_CheckPieces_0.eq_1]
      simp (maxSteps := 3000000) (maxDischargeDepth := 6) +contextual -implicitDefEqProofs only [amC M, ↓amD, Nat.reduceBEq, Nat.reduceAdd, env, fargs, q_truchmanref01_CheckPieces, hi, hx, hA, e, hct, htk, (show ((4 : Int) == 0) = false from rfl)]
    | false =>
    simp only [sel_false]
    cases hn : namE x with
    | true =>
      have e : aloneE (prevT l i) x = 5 := by rw [aloneE, ha, hca, hf, hn]; rfl
      rw [go_head M l_truchmanref01_CheckPieces_0.eq_1]
      simp (maxSteps := 3000000) (maxDischargeDepth := 6) +contextual -implicitDefEqProofs only [amC M, ↓amD, Nat.reduceBEq, Nat.reduceAdd, env, fargs, q_truchmanref01_CheckPieces, hi, hx, hA, e, hct, htk, (show ((5 : Int) == 0) = false from rfl)]
    | false =>
    simp only [sel_false]
    have e : aloneE (prevT l i) x = 0 := by rw [aloneE, ha, hca, hf, hn]; rfl
    cases htb : takesB (begF l i) (endF l i) x with
    | false =>
      rw [htb] at hC
      rw [go_head M l_truchmanref01_CheckPieces_0.eq_1]
      simp (maxSteps := 3000000) (maxDischargeDepth := 6) +contextual -implicitDefEqProofs only [amC M, ↓amD, Nat.reduceBEq, Nat.reduceAdd, env, fargs, q_truchmanref01_CheckPieces, hi, hx, hA, hC, e, hct, htk, beq_self_eq_true, (show ((8 : Int) == 0) = false from rfl)]
    | true =>
    rw [htb] at hC
    simp only [sel_true, sel_false] at hC ⊢
    cases h3 : x.kind == 3 with
    | true =>
      have h2 : (x.kind == 2) = false := by
        have : x.kind = 3 := by simpa using h3
        rw [this]; rfl
      cases st with
      | nil =>
        have hlen0 : ∀ H, rlen H .sl v = some (.int .i64 0) := hlen
        rw [go_head M l_truchmanref01_CheckPieces_0.eq_1]
        simp (maxSteps := 3000000) (maxDischargeDepth := 6) +contextual -implicitDefEqProofs only [amC M, ↓amD, Nat.reduceBEq, Nat.reduceAdd, env, fargs, q_truchmanref01_CheckPieces, hi, hx, ias_row hi, qPiece, hA, hC, e, h3, hlen0, popB, hct, htk, beq_self_eq_true]
      | cons y st =>
        obtain ⟨⟨q, o, cs, t1, t2, t3, t3'⟩, v', t4, t5⟩ := top_stk hst
        have hw : IntKind.i64.wrap ((((y :: st).length : Nat) : Int) - 1) = (st.length : Int) := by
          simp only [List.length_cons] at h16 ⊢
          rw [wrap_i64 (by omega) (by omega)]; omega
        have h0 : ((((y :: st).length : Nat) : Int) == 0) = false := by simp; omega
        cases hy : y == x.text with
        | false =>
          rw [go_head M l_truchmanref01_CheckPieces_0.eq_1]
          simp (maxSteps := 3000000) (maxDischargeDepth := 6) +contextual -implicitDefEqProofs only [amC M, ↓amD, Nat.reduceBEq, Nat.reduceAdd, env, fargs, q_truchmanref01_CheckPieces, hi, hx, ias_row hi, qPiece, hA, hC, e, h3, hlen, h0, hw, t1, t3, t3', hy, popB, hct, htk, beq_self_eq_true]
        | true =>
          have hstp : stP x (y :: st) = st := if_pos h3
          have ih := fun He => IH (i + 1) G He v' st (by omega) hP t5 (by simp at h16; omega)
          rw [hsu, hbs, hes] at ih
          simp only [kv_cons, kv_nil] at ih
          rw [go_head M l_truchmanref01_CheckPieces_0.eq_1]
          simp (maxSteps := 3000000) (maxDischargeDepth := 6) +contextual -implicitDefEqProofs only [amC M, ↓amD, Nat.reduceBEq, Nat.reduceAdd, env, fargs, q_truchmanref01_CheckPieces, hi, hx, ias_row hi, qPiece, hA, hC, e, h3, h2, hlen, h0, hw, t1, t3, t3', t4, hy, popB, hstp, hws, ih, beq_self_eq_true]
    | false =>
      have hstp : stP x st = st := if_neg (by rw [h3]; simp)
      cases h2 : x.kind == 2 with
      | false =>
        have ih := fun He => IH (i + 1) G He v st (by omega) hP hst h16
        rw [hsu, hbs, hes] at ih
        simp only [kv_cons, kv_nil] at ih
        rw [go_head M l_truchmanref01_CheckPieces_0.eq_1]
        simp (maxSteps := 3000000) (maxDischargeDepth := 6) +contextual -implicitDefEqProofs only [amC M, ↓amD, Nat.reduceBEq, Nat.reduceAdd, env, fargs, q_truchmanref01_CheckPieces, hi, hx, ias_row hi, qPiece, hA, hC, e, h3, h2, hstp, hws, ih, beq_self_eq_true]
      | true =>
        obtain ⟨v3, G3, p1, p2, p3, p4⟩ := ap_stk hst hP.1 (by omega) x.text
        have hP3 : Pre H0 G3 := ⟨Nat.le_trans hP.1 p3, fun j hj => by rw [p4 j hj]; exact hP.2 j hj⟩
        have c3 := hP3.cut
        have tk3 := hP3.take
        have hlen3 : ∀ H, rlen H .sl v3 = some (.int .i64 ((st.length + 1 : Nat) : Int)) := len_stk p2
        cases hgt : decide ((16 : Int) < ((x.text :: stP x st).length : Int)) with
        | true =>
          have hgt2 : decide ((16 : Int) < ((st.length + 1 : Nat) : Int)) = true := by rw [← hgt, hstp]; rfl
          rw [go_head M l_truchmanref01_CheckPieces_0.eq_1]
          simp (maxSteps := 3000000) (maxDischargeDepth := 6) +contextual -implicitDefEqProofs only [amC M, ↓amD, Nat.reduceBEq, Nat.reduceAdd, env, fargs, q_truchmanref01_CheckPieces, amG, AV.cell, Nat.reduceMul, Nat.reduceLeDiff, hi, hx, ias_row hi, qPiece, hA, hC, e, h3, h2, p1, hlen3, hgt2, c3, tk3, beq_self_eq_true]
        | false =>
          have hgt2 : decide ((16 : Int) < ((st.length + 1 : Nat) : Int)) = false := by rw [← hgt, hstp]; rfl
          have hle : (x.text :: st).length ≤ 16 := by have := of_decide_eq_false hgt2; simp only [List.length_cons]; omega
          have ih := fun He => IH (i + 1) G3 He v3 (x.text :: st) (by omega) hP3 p2 hle
          rw [hsu, hbs, hes] at ih
          simp only [kv_cons, kv_nil] at ih
          rw [go_head M l_truchmanref01_CheckPieces_0.eq_1]
          simp (maxSteps := 3000000) (maxDischargeDepth := 6) +contextual -implicitDefEqProofs only [amC M, ↓amD, Nat.reduceBEq, Nat.reduceAdd, env, fargs, q_truchmanref01_CheckPieces, amG, AV.cell, Nat.reduceMul, Nat.reduceLeDiff, hi, hx, ias_row hi, qPiece, hA, hC, e, h3, h2, p1, hlen3, hgt2, hstp, hws, ih, beq_self_eq_true]
theorem run_rCheckPieces (hB : BasE E) {l : Sl Piece} (hl : l.l.length ≤ 1000000) (ht : TxtOk l.l) (H : List AObj) :
    M.run f_truchmanref01_CheckPieces [.slice l.tag 3 (l.l.map Piece.row)] H = some (.ret (.int .u8 (checkP l.l)), H) := by
  rw [run_c M hB.truchmanref01_CheckPieces rfl (c := c_truchmanref01_CheckPieces) rfl, c_truchmanref01_CheckPieces]
  cases h5 : decide ((512 : Int) < (l.l.length : Int)) with
  | true => simp (maxSteps := 3000000) (maxDischargeDepth := 6) +contextual -implicitDefEqProofs only [amC M, ↓amD, Nat.reduceBEq, Nat.reduceAdd, env, fargs, q_truchmanref01_CheckPieces, h5, checkP]
  | false =>
    have hlp := fun k hk He => rckl M hB (tg := l.tag) hl ht (H0 := H) (k := k) hk l.l.length 0 H He (.slice .nil 1 []) [] (by omega) (Pre.refl H) (.inl ⟨rfl, rfl⟩) (by simp)
    simp only [kv_cons, kv_nil, Int.ofNat_zero, List.drop_zero, prevT_zero, (show begF l.l 0 = false from rfl), (show endF l.l 0 = false from rfl)] at hlp
    simp (maxSteps := 3000000) (maxDischargeDepth := 6) +contextual -implicitDefEqProofs only [amC M, ↓amD, Nat.reduceBEq, Nat.reduceAdd, env, fargs, q_truchmanref01_CheckPieces, h5, checkP]
    refine hlp _ (fun G v st hs hP => ?_) _
    have hlen := len_stk hs
    have hct := hP.cut
    have htk := hP.take
    simp (maxSteps := 3000000) (maxDischargeDepth := 6) +contextual -implicitDefEqProofs only [amC M, ↓amD, Nat.reduceBEq, Nat.reduceAdd, env, fargs, q_truchmanref01_CheckPieces, hlen, hct, htk]
end Go.Am
end

section
set_option linter.unusedSimpArgs false
set_option linter.unusedVariables false
set_option maxRecDepth 100000
set_option maxHeartbeats 4000000
namespace Go.Am
open Go.RowKit
attribute [local congr] dsel_congr sel_c1 slc_cong gsel_congr go_congr aft_congr aftD_congr condR_congr backR_congr inR_congr at2_congr
variable {E : REnv} (M : Mach cdec E)

structure StrE (E : REnv) : Prop where
  strings_IndexAny : E.fn f_strings_IndexAny = some a_strings_IndexAny
  strings_IndexRune : E.fn f_strings_IndexRune = some a_strings_IndexRune
  strings_makeASCIISet : E.fn f_strings_makeASCIISet = some a_strings_makeASCIISet
  strings_asciiSet_contains : E.fn f_strings_asciiSet_contains = some a_strings_asciiSet_contains
  strings_shouldUseASCIISet : E.fn f_strings_shouldUseASCIISet = some a_strings_shouldUseASCIISet
  strings_IndexByte : E.fn f_strings_IndexByte = some a_strings_IndexByte
  internal_stringslite_IndexByte : E.fn f_internal_stringslite_IndexByte = some a_internal_stringslite_IndexByte
  strings_HasPrefix : E.fn f_strings_HasPrefix = some a_strings_HasPrefix
  internal_stringslite_HasPrefix : E.fn f_internal_stringslite_HasPrefix = some a_internal_stringslite_HasPrefix
  strings_HasSuffix : E.fn f_strings_HasSuffix = some a_strings_HasSuffix
  internal_stringslite_HasSuffix : E.fn f_internal_stringslite_HasSuffix = some a_internal_stringslite_HasSuffix
  strings_Contains : E.fn f_strings_Contains = some a_strings_Contains
  strings_Index : E.fn f_strings_Index = some a_strings_Index
  internal_stringslite_Index : E.fn f_internal_stringslite_Index = some a_internal_stringslite_Index
  unicode_utf8_ValidRune : E.fn f_unicode_utf8_ValidRune = some a_unicode_utf8_ValidRune
  docs_marked : E.fn f_docs_marked = some a_docs_marked
  docs_written : E.fn f_docs_written = some a_docs_written
  truchmanref01_written : E.fn f_truchmanref01_written = some a_truchmanref01_written
  truchmanref01_marked : E.fn f_truchmanref01_marked = some a_truchmanref01_marked
  docs_Read : E.fn f_docs_Read = some a_docs_Read
  docs_Read_1 : E.fn f_docs_Read_1 = some a_docs_Read_1
  truchmanref01_Read : E.fn f_truchmanref01_Read = some a_truchmanref01_Read
  truchmanref01_upTo : E.fn f_truchmanref01_upTo = some a_truchmanref01_upTo

/-- The first element of a kind. -/
def idxF {α : Type} (p : α → Bool) : Nat → α → Option AV := fun i x => sel (p x) (some (.int .i64 (i : Int))) none
def idxI {α : Type} (p : α → Bool) : Nat → List α → Int
  | _, [] => -1
  | i, x :: l => sel (p x) (i : Int) (idxI p (i + 1) l)
theorem idx_first {α : Type} (p : α → Bool) : ∀ (l : List α) (i : Nat) (H : List AObj), orE (firstE (idxF p) i l) H (some (.ret (.int .i64 (-1)), H)) = some (.ret (.int .i64 (idxI p i l)), H)
  | [], i, H => rfl
  | x :: l, i, H => by
    rw [firstE_cons, idxF, idxI, orO_sel, orE_sel, orO_some, orO_none, orE_some, idx_first p l]
    cases p x <;> rfl
/-! Bytes that end a tag or a hole -/
def isEnd (c : UInt8) : Bool := (c == 62) || (c == 125)
def rep256 : List AV := List.replicate 256 (.bool false)
theorem z256 : ([.bool false, .bool false, .bool false, .bool false, .bool false, .bool false, .bool false, .bool false, .bool false, .bool false, .bool false, .bool false, .bool false, .bool false, .bool false, .bool false, .bool false, .bool false, .bool false, .bool false, .bool false, .bool false, .bool false, .bool false, .bool false, .bool false, .bool false, .bool false, .bool false, .bool false, .bool false, .bool false, .bool false, .bool false, .bool false, .bool false, .bool false, .bool false, .bool false, .bool false, .bool false, .bool false, .bool false, .bool false, .bool false, .bool false, .bool false, .bool false, .bool false, .bool false, .bool false, .bool false, .bool false, .bool false, .bool false, .bool false, .bool false, .bool false, .bool false, .bool false, .bool false, .bool false, .bool false, .bool false, .bool false, .bool false, .bool false, .bool false, .bool false, .bool false, .bool false, .bool false, .bool false, .bool false, .bool false, .bool false, .bool false, .bool false, .bool false, .bool false, .bool false, .bool false, .bool false, .bool false, .bool false, .bool false, .bool false, .bool false, .bool false, .bool false, .bool false, .bool false, .bool false, .bool false, .bool false, .bool false, .bool false, .bool false, .bool false, .bool false, .bool false, .bool false, .bool false, .bool false, .bool false, .bool false, .bool false, .bool false, .bool false, .bool false, .bool false, .bool false, .bool false, .bool false, .bool false, .bool false, .bool false, .bool false, .bool false, .bool false, .bool false, .bool false, .bool false, .bool false, .bool false, .bool false, .bool false, .bool false, .bool false, .bool false, .bool false, .bool false, .bool false, .bool false, .bool false, .bool false, .bool false, .bool false, .bool false, .bool false, .bool false, .bool false, .bool false, .bool false, .bool false, .bool false, .bool false, .bool false, .bool false, .bool false, .bool false, .bool false, .bool false, .bool false, .bool false, .bool false, .bool false, .bool false, .bool false, .bool false, .bool false, .bool false, .bool false, .bool false, .bool false, .bool false, .bool false, .bool false, .bool false, .bool false, .bool false, .bool false, .bool false, .bool false, .bool false, .bool false, .bool false, .bool false, .bool false, .bool false, .bool false, .bool false, .bool false, .bool false, .bool false, .bool false, .bool false, .bool false, .bool false, .bool false, .bool false, .bool false, .bool false, .bool false, .bool false, .bool false, .bool false, .bool false, .bool false, .bool false, .bool false, .bool false, .bool false, .bool false, .bool false, .bool false, .bool false, .bool false, .bool false, .bool false, .bool false, .bool false, .bool false, .bool false, .bool false, .bool false, .bool false, .bool false, .bool false, .bool false, .bool false, .bool false, .bool false, .bool false, .bool false, .bool false, .bool false, .bool false, .bool false, .bool false, .bool false, .bool false, .bool false, .bool false, .bool false, .bool false, .bool false, .bool false, .bool false, .bool false, .bool false, .bool false, .bool false, .bool false, .bool false, .bool false, .bool false, .bool false, .bool false, .bool false, .bool false, .bool false, .bool false, .bool false, .bool false, .bool false] : List AV) = rep256 := rfl
def asc1 : List AV := setRow rep256 62 [.bool true]
def asc2 : List AV := setRow asc1 125 [.bool true]
theorem asc2_get (c : UInt8) : asc2[c.toNat]? = some (.bool (isEnd c)) := by
  have h : ∀ n : Fin 256, asc2[n.val]? = some (.bool (isEnd (UInt8.ofNat n.val))) := by
    intro n
    have : asc2 = (List.range 256).map fun n => .bool (isEnd (UInt8.ofNat n)) := rfl
    rw [this, List.getElem?_map, List.getElem?_range n.isLt]; rfl
  have := h ⟨c.toNat, c.toNat_lt⟩
  simpa using this
theorem asc2_set : setRow asc2 0 asc2 = asc2 := rfl
theorem rep_set : setRow rep256 0 asc2 = asc2 := rfl
theorem iaa_c (id : Nat) (c : UInt8) : riaa 256 1 (.ptr id 0) (.int .u8 (c.toNat : Int)) = some (.ptr id c.toNat) := by
  have := c.toNat_lt
  simp only [riaa]
  rw [if_pos (by omega)]
  simp
theorem run_contains (hS : StrE E) {H : List AObj} {p : Nat} {T : TypeId} (hp : H[p]? = some (.cells asc2 T)) (c : UInt8) : M.run f_strings_asciiSet_contains [.ptr p 0, .int .u8 c.toNat] H = some (.ret (.bool (isEnd c)), H) := by
  rw [run_c M hS.strings_asciiSet_contains rfl (c := c_strings_asciiSet_contains) rfl, c_strings_asciiSet_contains]
  have e := asc2_get c
  have l0 : rload none asc2 c.toNat = some (.bool (isEnd c)) := e
  simp (maxSteps := 3000000) (maxDischargeDepth := 6) +contextual -implicitDefEqProofs only [amC M, ↓amD, Nat.reduceBEq, Nat.reduceAdd, env, fargs, q_strings_asciiSet_contains, rnc, iaa_c, hp, l0]
theorem wkL_all {n : Nat} : ∀ {l : List AV}, (∀ v ∈ l, Wk n v v) → WkL n l l
  | [], _ => trivial
  | v :: l, h => ⟨h v (List.mem_cons_self ..), wkL_all fun u hu => h u (List.mem_cons_of_mem _ hu)⟩
theorem asc2_wk (n : Nat) : Wk n (.agg asc2) (.agg asc2) := wk_agg (wkL_all fun v hv => by
  have e : asc2 = (List.range 256).map fun n => .bool (isEnd (UInt8.ofNat n)) := rfl
  rw [e] at hv
  obtain ⟨m, _, rfl⟩ := List.mem_map.1 hv
  exact wk_bool _ _)
theorem run_mkA (hS : StrE E) (H : List AObj) : M.run f_strings_makeASCIISet [.str [62, 125]] H = some (.ret (.tuple [.agg asc2, .bool true]), H) := by
  rw [run_c M hS.strings_makeASCIISet rfl (c := c_strings_makeASCIISet) rfl, c_strings_makeASCIISet]
  have a1 : ∀ id, riaa 256 1 (.ptr id 0) (.int .u8 62) = some (.ptr id 62) := fun id => iaa_c id 62
  have a2 : ∀ id, riaa 256 1 (.ptr id 0) (.int .u8 125) = some (.ptr id 125) := fun id => iaa_c id 125
  have s1 : ∀ T, stO 1 (H ++ [.cells rep256 T]) H.length 62 [.bool true] (some (.cells rep256 T)) = some (H ++ [.cells asc1 T]) := fun T => by
    simp only [stO]; rw [if_pos ⟨rfl, by decide, rfl⟩, hp_set0]; rfl
  have s2 : ∀ T, stO 1 (H ++ [.cells asc1 T]) H.length 125 [.bool true] (some (.cells asc1 T)) = some (H ++ [.cells asc2 T]) := fun T => by
    simp only [stO]; rw [if_pos ⟨rfl, by decide, rfl⟩, hp_set0]; rfl
  have s3 : ∀ T, stO 256 (H ++ [.cells asc2 T]) H.length 0 asc2 (some (.cells asc2 T)) = some (H ++ [.cells asc2 T]) := fun T => by
    simp only [stO]; rw [if_pos ⟨rfl, by decide, rfl⟩, hp_set0, asc2_set]; rfl
  have l2 : takeO 256 asc2 = some asc2 := rfl
  have n0 : decide ((0 : Int) < (([62, 125] : Str).length : Int)) = true := rfl
  have n1 : decide ((1 : Int) < (([62, 125] : Str).length : Int)) = true := rfl
  have n2 : decide ((2 : Int) < (([62, 125] : Str).length : Int)) = false := rfl
  have w1 : IntKind.i64.wrap (0 + 1) = 1 := by decide
  have w2 : IntKind.i64.wrap (1 + 1) = 2 := by decide
  have c1 : decide ((128 : Int) ≤ 62) = false := rfl
  have c2 : decide ((128 : Int) ≤ 125) = false := rfl
  have hac : acells (.agg asc2) = some asc2 := rfl
  have hac2 : acells (.bool true) = some [.bool true] := rfl
  simp (maxSteps := 3000000) (maxDischargeDepth := 6) +contextual -implicitDefEqProofs only [amC M, ↓amD, Nat.reduceBEq, Nat.reduceAdd, env, fargs, q_strings_makeASCIISet, ↓z256, go_head M l_strings_makeASCIISet_0.eq_1, a1, a2, s1, s2, s3, l2, hp_get0, List.getElem?_cons_zero, n0, n1, n2, (show ((UInt8.toNat 62 : Nat) : Int) = 62 from rfl), (show ((UInt8.toNat 125 : Nat) : Int) = 125 from rfl), List.getElem?_cons_succ, w1, w2, c1, c2, hac, hac2, (show ∀ H, runit (some H) = some (undefA, H) from fun _ => rfl), cut_app, hp_take, wk_tuple, asc2_wk, (show anyV (.tuple [.agg asc2, .bool true]) = .tuple [.agg asc2, .bool true] from rfl)]

/-! Strings -/
theorem run_IndexByteL (hS : StrE E) (hX : ExtE M) (s : Str) (c : UInt8) (H : List AObj) : M.run f_internal_stringslite_IndexByte [.str s, .int .u8 c.toNat] H = some (.ret (.int .i64 (Lib.indexByte s c)), H) := by
  rw [run_c M hS.internal_stringslite_IndexByte rfl (c := c_internal_stringslite_IndexByte) rfl, c_internal_stringslite_IndexByte]
  simp (maxSteps := 3000000) (maxDischargeDepth := 6) +contextual -implicitDefEqProofs only [amC M, ↓amD, Nat.reduceBEq, Nat.reduceAdd, env, fargs, q_internal_stringslite_IndexByte, hX.index]
theorem run_IndexByte (hS : StrE E) (hX : ExtE M) (s : Str) (c : UInt8) (H : List AObj) : M.run f_strings_IndexByte [.str s, .int .u8 c.toNat] H = some (.ret (.int .i64 (Lib.indexByte s c)), H) := by
  have h1 := run_IndexByteL M hS hX s c H
  rw [run_c M hS.strings_IndexByte rfl (c := c_strings_IndexByte) rfl, c_strings_IndexByte]
  simp (maxSteps := 3000000) (maxDischargeDepth := 6) +contextual -implicitDefEqProofs only [amC M, ↓amD, Nat.reduceBEq, Nat.reduceAdd, env, fargs, q_strings_IndexByte, h1]
theorem run_sIndex (hS : StrE E) (hX : ExtE M) (s : Str) (c : UInt8) (H : List AObj) : M.run f_strings_Index [.str s, .str [c]] H = some (.ret (.int .i64 (Lib.indexByte s c)), H) := by
  have h1 := run_IndexByteL M hS hX s c H
  have h2 : M.run f_internal_stringslite_Index [.str s, .str [c]] H = some (.ret (.int .i64 (Lib.indexByte s c)), H) := by
    rw [run_c M hS.internal_stringslite_Index rfl (c := c_internal_stringslite_Index) rfl, c_internal_stringslite_Index]
    have e0 : ((([c].length : Nat) : Int) == 0) = false := rfl
    have e1 : ((([c].length : Nat) : Int) == 1) = true := rfl
    have e2 : byteO ([c] : Str)[0]? = some (.int .u8 (c.toNat : Int)) := rfl
    cases he : ([c] : Str) == s with
    | true =>
      have : Lib.indexByte s c = 0 := by rw [← eq_of_beq he]; simp [Lib.indexByte]
      rw [this]
      simp (maxSteps := 3000000) (maxDischargeDepth := 6) +contextual -implicitDefEqProofs only [amC M, ↓amD, Nat.reduceBEq, Nat.reduceAdd, env, fargs, q_internal_stringslite_Index, e0, e1, he]
    | false =>
      simp (maxSteps := 3000000) (maxDischargeDepth := 6) +contextual -implicitDefEqProofs only [amC M, ↓amD, Nat.reduceBEq, Nat.reduceAdd, env, fargs, q_internal_stringslite_Index, e0, e1, e2, h1, he]
  rw [run_c M hS.strings_Index rfl (c := c_strings_Index) rfl, c_strings_Index]
  simp (maxSteps := 3000000) (maxDischargeDepth := 6) +contextual -implicitDefEqProofs only [amC M, ↓amD, Nat.reduceBEq, Nat.reduceAdd, env, fargs, q_strings_Index, h2]
theorem index_any : ∀ (s : Str) (c : UInt8), decide ((0 : Int) ≤ Lib.indexByte s c) = s.any fun d => d == c
  | [], c => rfl
  | d :: s, c => by
    rw [Lib.indexByte, List.any_cons, ← index_any s c]
    cases h : d == c with
    | true => simp
    | false =>
      have hg := Lib.indexByte_ge s c
      simp only [Bool.false_or]
      by_cases h2 : Lib.indexByte s c = -1
      · simp [h2]
      · have : (Lib.indexByte s c == -1) = false := by simpa using h2
        simp only [this]
        rw [Bool.eq_iff_iff]; simp; omega
theorem run_sContains (hS : StrE E) (hX : ExtE M) (s : Str) (c : UInt8) (H : List AObj) : M.run f_strings_Contains [.str s, .str [c]] H = some (.ret (.bool (s.any fun d => d == c)), H) := by
  have h1 := run_sIndex M hS hX s c H
  rw [run_c M hS.strings_Contains rfl (c := c_strings_Contains) rfl, c_strings_Contains]
  simp (maxSteps := 3000000) (maxDischargeDepth := 6) +contextual -implicitDefEqProofs only [amC M, ↓amD, Nat.reduceBEq, Nat.reduceAdd, env, fargs, q_strings_Contains, h1, index_any]
def hasPre (s p : Str) : Bool := decide (p.length ≤ s.length) && (s.take p.length == p)
theorem run_HasPrefix0 (hS : StrE E) (s p : Str) (H : List AObj) : M.run f_internal_stringslite_HasPrefix [.str s, .str p] H = some (.ret (.bool (hasPre s p)), H) := by
  rw [run_c M hS.internal_stringslite_HasPrefix rfl (c := c_internal_stringslite_HasPrefix) rfl, c_internal_stringslite_HasPrefix]
  cases hd : decide (p.length ≤ s.length) with
  | true =>
    have hle : p.length ≤ s.length := of_decide_eq_true hd
    simp (maxSteps := 3000000) (maxDischargeDepth := 6) +contextual -implicitDefEqProofs only [amC M, ↓amD, Nat.reduceBEq, Nat.reduceAdd, env, fargs, q_internal_stringslite_HasPrefix, hasPre, hd, sls_to hle]
  | false =>
    simp (maxSteps := 3000000) (maxDischargeDepth := 6) +contextual -implicitDefEqProofs only [amC M, ↓amD, Nat.reduceBEq, Nat.reduceAdd, env, fargs, q_internal_stringslite_HasPrefix, hasPre, hd]
theorem run_HasPrefix (hS : StrE E) (s p : Str) (H : List AObj) : M.run f_strings_HasPrefix [.str s, .str p] H = some (.ret (.bool (hasPre s p)), H) := by
  have h1 := run_HasPrefix0 M hS s p H
  rw [run_c M hS.strings_HasPrefix rfl (c := c_strings_HasPrefix) rfl, c_strings_HasPrefix]
  simp (maxSteps := 3000000) (maxDischargeDepth := 6) +contextual -implicitDefEqProofs only [amC M, ↓amD, Nat.reduceBEq, Nat.reduceAdd, env, fargs, q_strings_HasPrefix, h1]
def hasSuf (s p : Str) : Bool := decide (p.length ≤ s.length) && (s.drop (s.length - p.length) == p)
theorem run_HasSuffix (hS : StrE E) {s : Str} (hs : s.length ≤ maxL) (p : Str) (H : List AObj) : M.run f_strings_HasSuffix [.str s, .str p] H = some (.ret (.bool (hasSuf s p)), H) := by
  have h1 : M.run f_internal_stringslite_HasSuffix [.str s, .str p] H = some (.ret (.bool (hasSuf s p)), H) := by
    rw [run_c M hS.internal_stringslite_HasSuffix rfl (c := c_internal_stringslite_HasSuffix) rfl, c_internal_stringslite_HasSuffix]
    cases hd : decide (p.length ≤ s.length) with
    | true =>
      have hle : p.length ≤ s.length := of_decide_eq_true hd
      have hw : IntKind.i64.wrap ((s.length : Int) - (p.length : Int)) = ((s.length - p.length : Nat) : Int) := by
        simp only [maxL] at hs
        rw [wrap_i64 (by omega) (by omega)]; omega
      simp (maxSteps := 3000000) (maxDischargeDepth := 6) +contextual -implicitDefEqProofs only [amC M, ↓amD, Nat.reduceBEq, Nat.reduceAdd, env, fargs, q_internal_stringslite_HasSuffix, hasSuf, hd, hw, sls_from (show s.length - p.length ≤ s.length by omega)]
    | false =>
      simp (maxSteps := 3000000) (maxDischargeDepth := 6) +contextual -implicitDefEqProofs only [amC M, ↓amD, Nat.reduceBEq, Nat.reduceAdd, env, fargs, q_internal_stringslite_HasSuffix, hasSuf, hd]
  rw [run_c M hS.strings_HasSuffix rfl (c := c_strings_HasSuffix) rfl, c_strings_HasSuffix]
  simp (maxSteps := 3000000) (maxDischargeDepth := 6) +contextual -implicitDefEqProofs only [amC M, ↓amD, Nat.reduceBEq, Nat.reduceAdd, env, fargs, q_strings_HasSuffix, h1]

/-! A rune among the two -/
def rI (r : Nat) : Int := sel (r == 62) 0 (sel (r == 125) 1 (-1))
theorem enc_two {r : Nat} (h : 128 ≤ r) (hr : r ≤ 1114111) (hsur : ¬ (55296 ≤ r ∧ r ≤ 57343)) : (∃ a b : UInt8, (Utf8.encode (r : Int)).data.toList = [a, b] ∧ 128 ≤ b.toNat) ∨ (3 ≤ (Utf8.encode (r : Int)).data.toList.length ∧ (Utf8.encode (r : Int)).data.toList.length ≤ 4) := by
  by_cases c2 : r < 2048
  · refine .inl ⟨_, _, Extern.FmtText.enc2 r (by omega) c2, ?_⟩
    simp
    omega
  by_cases c3 : r < 65536
  · rw [Extern.FmtText.enc3 r c2 c3 (by omega)]; exact .inr ⟨by simp, by simp⟩
  · rw [Extern.FmtText.enc4 r c3 hr]; exact .inr ⟨by simp, by simp⟩
theorem run_IndexRune (hS : StrE E) (hX : ExtE M) {r : Nat} (hr : r ≤ 1114111) (hsur : ¬ (55296 ≤ r ∧ r ≤ 57343)) (H : List AObj) : M.run f_strings_IndexRune [.str [62, 125], .int .i32 (r : Int)] H = some (.ret (.int .i64 (rI r)), H) := by
  by_cases h1 : r < 128
  · have hb : ((UInt8.ofNat r).toNat : Int) = (r : Int) := by simp; omega
    have h2 := run_IndexByte M hS hX [62, 125] (UInt8.ofNat r) H
    rw [hb] at h2
    have hI : Lib.indexByte [62, 125] (UInt8.ofNat r) = rI r := by
      have : ∀ n : Fin 128, Lib.indexByte [62, 125] (UInt8.ofNat n.val) = rI n.val := by decide
      exact this ⟨r, h1⟩
    rw [hI] at h2
    have d1 : decide ((0 : Int) ≤ (r : Int)) = true := decide_eq_true (by omega)
    have d2 : decide ((r : Int) < 128) = true := decide_eq_true (by omega)
    have hw : IntKind.u8.wrap (r : Int) = (r : Int) := by
      have : ∀ n : Fin 128, IntKind.u8.wrap ((n.val : Nat) : Int) = (n.val : Int) := by decide
      exact this ⟨r, h1⟩
    rw [run_c M hS.strings_IndexRune rfl (c := c_strings_IndexRune) rfl, c_strings_IndexRune]
    simp (maxSteps := 3000000) (maxDischargeDepth := 6) +contextual -implicitDefEqProofs only [amC M, ↓amD, Nat.reduceBEq, Nat.reduceAdd, env, fargs, q_strings_IndexRune, d1, d2, rcvi, hw, h2]
  · have d1 : decide ((0 : Int) ≤ (r : Int)) = true := decide_eq_true (by omega)
    have d2 : decide ((r : Int) < 128) = false := decide_eq_false (by omega)
    have hI : rI r = -1 := by
      have e1 : (r == 62) = false := by simp; omega
      have e2 : (r == 125) = false := by simp; omega
      rw [rI, e1, e2]; rfl
    rw [hI]
    by_cases h3 : r = 65533
    · subst h3
      rw [run_c M hS.strings_IndexRune rfl (c := c_strings_IndexRune) rfl, c_strings_IndexRune]
      have c0 : Utf8.decode ⟨([62, 125] : Str).toArray⟩ 0 = (62, 1) := by decide
      have c1 : Utf8.decode ⟨([62, 125] : Str).toArray⟩ 1 = (125, 1) := by decide
      have e3 : (((65533 : Nat) : Int) == 65533) = true := rfl
      simp (maxSteps := 3000000) (maxDischargeDepth := 6) +contextual -implicitDefEqProofs only [amC M, ↓amD, Nat.reduceBEq, Nat.reduceAdd, env, fargs, q_strings_IndexRune, amG, AV.cell, Nat.reduceMul, Nat.reduceLeDiff, d1, d2, e3, go_head M l_strings_IndexRune_0.eq_1, anext, rrg, hp_get0, hp_set0, c0, c1, (show ((0 : Nat) < 2) = True by simp), (show ((1 : Nat) < 2) = True by simp), (show ((2 : Nat) < 2) = False by simp), (show (((62 : Nat) : Int) == 65533) = false from rfl), (show (((125 : Nat) : Int) == 65533) = false from rfl), aextract, List.getElem?_cons_zero, List.getElem?_cons_succ, cut_app, hp_take]
    · have e3 : ((r : Int) == 65533) = false := by simp; omega
      have hv : ∀ H, M.run f_unicode_utf8_ValidRune [.int .i32 (r : Int)] H = some (.ret (.bool true), H) := fun H => by
        rw [run_c M hS.unicode_utf8_ValidRune rfl (c := c_unicode_utf8_ValidRune) rfl, c_unicode_utf8_ValidRune]
        by_cases h5 : r < 55296
        · have v2 : decide ((r : Int) < 55296) = true := decide_eq_true (by omega)
          simp (maxSteps := 3000000) (maxDischargeDepth := 6) +contextual -implicitDefEqProofs only [amC M, ↓amD, Nat.reduceBEq, Nat.reduceAdd, env, fargs, q_unicode_utf8_ValidRune, d1, v2]
        · have v2 : decide ((r : Int) < 55296) = false := decide_eq_false (by omega)
          have v3 : decide ((57343 : Int) < (r : Int)) = true := decide_eq_true (by omega)
          have v4 : decide ((r : Int) ≤ 1114111) = true := decide_eq_true (by omega)
          simp (maxSteps := 3000000) (maxDischargeDepth := 6) +contextual -implicitDefEqProofs only [amC M, ↓amD, Nat.reduceBEq, Nat.reduceAdd, env, fargs, q_unicode_utf8_ValidRune, d1, v2, v3, v4]
      rcases enc_two (r := r) (by omega) hr hsur with ⟨a, b, he, hb⟩ | ⟨hl, hl4⟩
      · have w1 : IntKind.i64.wrap ((([a, b] : Str).length : Int) - 1) = 1 := rfl
        have n1 : decide ((1 : Int) < (([62, 125] : Str).length : Int)) = true := rfl
        have w2 : IntKind.i64.wrap (1 + 1) = 2 := rfl
        have hne : ((125 : UInt8).toNat == b.toNat) = false := by
          have : (125 : UInt8).toNat = 125 := rfl
          rw [this, beq_eq_false_iff_ne]; omega
        have hib := run_IndexByte M hS hX [] b H
        have hs : rsls (.str [62, 125]) (some (.int .i64 2)) none = some (.str []) := rfl
        have hlt : decide ((-1 : Int) < 0) = true := rfl
        rw [run_c M hS.strings_IndexRune rfl (c := c_strings_IndexRune) rfl, c_strings_IndexRune]
        simp (maxSteps := 3000000) (maxDischargeDepth := 6) +contextual -implicitDefEqProofs only [amC M, ↓amD, Nat.reduceBEq, Nat.reduceAdd, env, fargs, q_strings_IndexRune, d1, d2, e3, hv, rcvs, he, w1, w2, n1, hne, hs, hib, (show Lib.indexByte [] b = -1 from rfl), hlt, List.getElem?_cons_zero, List.getElem?_cons_succ, go_head M l_strings_IndexRune_2.eq_1]
      · obtain ⟨e, he⟩ : ∃ e, (Utf8.encode (r : Int)).data.toList = e := ⟨_, rfl⟩
        rw [he] at hl hl4
        have w1 : IntKind.i64.wrap ((e.length : Int) - 1) = ((e.length - 1 : Nat) : Int) := by rw [wrap_i64 (by omega) (by omega)]; omega
        have n1 : decide (e.length - 1 < ([62, 125] : Str).length) = false := decide_eq_false (by simp; omega)
        rw [run_c M hS.strings_IndexRune rfl (c := c_strings_IndexRune) rfl, c_strings_IndexRune]
        simp (maxSteps := 3000000) (maxDischargeDepth := 6) +contextual -implicitDefEqProofs only [amC M, ↓amD, Nat.reduceBEq, Nat.reduceAdd, env, fargs, q_strings_IndexRune, d1, d2, e3, hv, rcvs, he, w1, n1, go_head M l_strings_IndexRune_2.eq_1]
end Go.Am
end

section
set_option linter.unusedSimpArgs false
set_option linter.unusedVariables false
set_option maxRecDepth 100000
set_option maxHeartbeats 4000000
namespace Go.Am
open Go.RowKit
attribute [local congr] dsel_congr sel_c1 slc_cong gsel_congr go_congr aft_congr aftD_congr condR_congr backR_congr inR_congr at2_congr
variable {E : REnv} (M : Mach cdec E)

theorem isEnd_hi {c : UInt8} (h : 128 ≤ c.toNat) : isEnd c = false := by
  unfold isEnd
  rw [Bool.or_eq_false_iff]
  constructor <;> (rw [beq_eq_false_iff_ne]; rintro rfl; revert h; decide)
/-- A rune that is no ASCII one, and the bytes of it. -/
theorem dec1_hi {c : UInt8} {t : Str} (h : 128 ≤ c.toNat) : 128 ≤ (dec1 (c :: t)).1 ∧ (dec1 (c :: t)).1 ≤ 1114111 ∧ ¬ (55296 ≤ (dec1 (c :: t)).1 ∧ (dec1 (c :: t)).1 ≤ 57343) ∧ ∀ j, j < (dec1 (c :: t)).2 → 128 ≤ ((c :: t).getD j 0).toNat := by
  have k0 := c.toNat_lt
  have k1 := ((c :: t).getD 1 0).toNat_lt
  have k2 := ((c :: t).getD 2 0).toNat_lt
  have k3 := ((c :: t).getD 3 0).toNat_lt
  have g0 : (c :: t).getD 0 0 = c := rfl
  unfold dec1
  rw [Lib.decodeL_N, g0]
  rcases Lib.decodeN_shape (c :: t).length c.toNat ((c :: t).getD 1 0).toNat ((c :: t).getD 2 0).toNat ((c :: t).getD 3 0).toNat with ⟨c, e⟩ | ⟨c1, c2, c3, cv, e⟩ | ⟨c1, c2, c3, c4, cv, cs, e⟩ | ⟨c1, c2, c3, c4, c5, cv, cw, e⟩ | e
  · omega
  · rw [e]
    refine ⟨by dsimp only; omega, by dsimp only; omega, by dsimp only; omega, fun j hj => ?_⟩
    dsimp only at hj
    obtain rfl | rfl : j = 0 ∨ j = 1 := by omega
    · rw [g0]; exact h
    · omega
  · rw [e]
    refine ⟨by dsimp only; omega, by dsimp only; omega, by dsimp only; omega, fun j hj => ?_⟩
    dsimp only at hj
    obtain rfl | rfl | rfl : j = 0 ∨ j = 1 ∨ j = 2 := by omega
    · rw [g0]; exact h
    · omega
    · omega
  · rw [e]
    refine ⟨by dsimp only; omega, by dsimp only; omega, by dsimp only; omega, fun j hj => ?_⟩
    dsimp only at hj
    obtain rfl | rfl | rfl | rfl : j = 0 ∨ j = 1 ∨ j = 2 ∨ j = 3 := by omega
    · rw [g0]; exact h
    · omega
    · omega
    · omega
  · rw [e]
    refine ⟨by decide, by decide, by decide, fun j hj => ?_⟩
    dsimp only at hj
    obtain rfl : j = 0 := by omega
    rw [g0]; exact h
theorem dec1_lo {c : UInt8} {t : Str} (h : c.toNat < 128) : dec1 (c :: t) = (c.toNat, 1) := by
  unfold dec1
  rw [Lib.decodeL_N]
  simp [Lib.decodeN, h]
theorem idxI_skip {p : UInt8 → Bool} : ∀ (w : Nat) (l : Str) (i : Nat), w ≤ l.length → (∀ j, j < w → p (l.getD j 0) = false) → idxI p i l = idxI p (i + w) (l.drop w)
  | 0, l, i, _, _ => by simp
  | w + 1, [], i, h, _ => by simp at h
  | w + 1, c :: t, i, h, hp => by
    have h0 : p c = false := hp 0 (by omega)
    rw [idxI, h0, List.drop_succ_cons, show i + (w + 1) = i + 1 + w by omega]
    exact idxI_skip w t (i + 1) (by simpa using h) fun j hj => by simpa using hp (j + 1) (by omega)
/-- What the next rune tells. -/
theorem end_step {s : Str} (h : s ≠ []) (i : Nat) : idxI isEnd i s = sel (decide ((0 : Int) ≤ rI (dec1 s).1)) (i : Int) (idxI isEnd (i + (dec1 s).2) (s.drop (dec1 s).2)) := by
  cases s with
  | nil => exact absurd rfl h
  | cons c t =>
    by_cases hc : c.toNat < 128
    · rw [dec1_lo hc]
      have : decide ((0 : Int) ≤ rI c.toNat) = isEnd c := by
        have h2 : ∀ n : Fin 128, decide ((0 : Int) ≤ rI n.val) = isEnd (UInt8.ofNat n.val) := by decide
        have := h2 ⟨c.toNat, hc⟩
        simpa using this
      rw [this]
      simp only [idxI, List.drop_succ_cons, List.drop_zero]
    · obtain ⟨h1, h2, h3, h4⟩ := dec1_hi (c := c) (t := t) (by omega)
      have hr : decide ((0 : Int) ≤ rI (dec1 (c :: t)).1) = false := by
        have e1 : ((dec1 (c :: t)).1 == 62) = false := by simp; omega
        have e2 : ((dec1 (c :: t)).1 == 125) = false := by simp; omega
        rw [rI, e1, e2]; rfl
      rw [hr, sel_false]
      exact idxI_skip _ _ _ (dec1_le h) fun j hj => isEnd_hi (h4 j hj)

theorem ia0 {H H0 : List AObj} (hS : StrE E) {s : Str} (hs : s.length ≤ maxL) {p : Nat} {T : TypeId} (hp : H[p]? = some (.cells asc2 T)) (hc : CutOk H0 H) (k : List Fra) : ∀ (n i : Nat) (He : List AObj), i + n = s.length →
    M.go a_strings_IndexAny H0 (.c l_strings_IndexAny_0 :: .lp ⟨(some [0, 6, 8]), [], false⟩ l_strings_IndexAny_0 He :: .blk 0 :: .c (.lv []) :: k) (kv [(0, .str s), (6, .ptr p 0), (8, .int .i64 i)]) H =
      orE (firstE (idxF isEnd) i (s.drop i)) (H.take H0.length) (M.go a_strings_IndexAny H0 k .leaf H)
  | 0, i, He, h => by
    have e : i = s.length := by omega
    subst e
    rw [go_head M l_strings_IndexAny_0.eq_1]
    simp (maxSteps := 3000000) (maxDischargeDepth := 6) +contextual -implicitDefEqProofs only [amC M, ↓amD, Nat.reduceBEq, Nat.reduceAdd, env, fargs, q_strings_IndexAny, Nat.lt_irrefl, List.drop_length]
  | n + 1, i, He, h => by
    have hi : i < s.length := by omega
    have hx : s[i]? = some s[i] := List.getElem?_eq_getElem hi
    have hd : (s.drop i) = s[i] :: s.drop (i + 1) := List.drop_eq_getElem_cons hi
    have hm : s[i] ∈ s := List.getElem_mem hi
    have ih := fun He => ia0 (H := H) (H0 := H0) (hS := hS) (s := s) (hs := hs) (p := p) (T := T) (hp := hp) hc k n (i + 1)  He (by omega)
    simp only [kv_cons, kv_nil] at ih
    rw [go_head M l_strings_IndexAny_0.eq_1]
    simp (maxSteps := 3000000) (maxDischargeDepth := 6) +contextual -implicitDefEqProofs only [amC M, ↓amD, Nat.reduceBEq, Nat.reduceAdd, env, fargs, q_strings_IndexAny, hx, hd, hi, ih, run_contains M hS hp, wrap_s hi hs, idxF, hc]
theorem ia1 (hS : StrE E) (hX : ExtE M) {s : Str} (hs : s.length ≤ maxL) {H0 : List AObj} (k : List Fra) : ∀ (n i : Nat) (He : List AObj), s.length - i ≤ n → i ≤ s.length →
    M.go a_strings_IndexAny H0 (.c l_strings_IndexAny_1 :: .lp ⟨(some [1, 45]), [], false⟩ l_strings_IndexAny_1 He :: .blk 2 :: .c (.lv []) :: k) (kv [(1, .str [62, 125]), (45, .ptr H0.length 0)]) (H0 ++ [.siter s i]) =
      sel (decide ((0 : Int) ≤ idxI isEnd i (s.drop i))) (some (.ret (.int .i64 (idxI isEnd i (s.drop i))), H0)) (M.go a_strings_IndexAny H0 k .leaf (H0 ++ [.siter s s.length]))
  | 0, i, He, h, hi => by
    obtain rfl : i = s.length := by omega
    rw [List.drop_length]
    have e : decide ((0 : Int) ≤ idxI isEnd s.length []) = false := rfl
    rw [go_head M l_strings_IndexAny_1.eq_1]
    simp (maxSteps := 3000000) (maxDischargeDepth := 6) +contextual -implicitDefEqProofs only [amC M, ↓amD, Nat.reduceBEq, Nat.reduceAdd, env, fargs, q_strings_IndexAny, anext, hp_get0, List.getElem?_cons_zero, Nat.lt_irrefl, aextract, e]
  | n + 1, i, He, h, hi => by
    by_cases hlt : i < s.length
    · have hne : s.drop i ≠ [] := fun e => by have := congrArg List.length e; simp at this; omega
      have hw := dec1_w (s.drop i)
      have hle := dec1_le hne
      rw [List.length_drop] at hle
      have ih := fun He => ia1 hS hX hs (H0 := H0) k n (i + (dec1 (s.drop i)).2) He (by omega) (by omega)
      rw [← List.drop_drop] at ih
      have hstep := end_step hne i
      have hru : (dec1 (s.drop i)).1 ≤ 1114111 ∧ ¬ (55296 ≤ (dec1 (s.drop i)).1 ∧ (dec1 (s.drop i)).1 ≤ 57343) := by
        cases hd : s.drop i with
        | nil => exact absurd hd hne
        | cons c t =>
          by_cases hc : c.toNat < 128
          · rw [dec1_lo hc]; exact ⟨by dsimp only; omega, by dsimp only; omega⟩
          · obtain ⟨_, h2, h3, _⟩ := dec1_hi (c := c) (t := t) (by omega)
            exact ⟨h2, h3⟩
      have hI := fun H => run_IndexRune M hS hX hru.1 hru.2 H
      have hdd : Utf8.decode ⟨s.toArray⟩ i = dec1 (s.drop i) := dec1_drop s i
      simp only [kv_cons, kv_nil] at ih
      generalize dec1 (s.drop i) = d at *
      cases hpos : decide ((0 : Int) ≤ rI d.1) with
      | true =>
        have hv : idxI isEnd i (s.drop i) = (i : Int) := by rw [hstep, hpos]; rfl
        have e0 : decide ((0 : Int) ≤ (i : Int)) = true := decide_eq_true (by omega)
        rw [hv, e0, sel_true]
        rw [go_head M l_strings_IndexAny_1.eq_1]
        simp (maxSteps := 3000000) (maxDischargeDepth := 6) +contextual -implicitDefEqProofs only [amC M, ↓amD, Nat.reduceBEq, Nat.reduceAdd, env, fargs, q_strings_IndexAny, amG, AV.cell, Nat.reduceMul, Nat.reduceLeDiff, anext, hp_get0, hp_set0, hlt, hdd, aextract, List.getElem?_cons_succ, hI, hpos, cut_app, hp_take]
      | false =>
        have hv : idxI isEnd i (s.drop i) = idxI isEnd (i + d.2) ((s.drop i).drop d.2) := by rw [hstep, hpos]; rfl
        rw [hv]
        rw [go_head M l_strings_IndexAny_1.eq_1]
        simp (maxSteps := 3000000) (maxDischargeDepth := 6) +contextual -implicitDefEqProofs only [amC M, ↓amD, Nat.reduceBEq, Nat.reduceAdd, env, fargs, q_strings_IndexAny, amG, AV.cell, Nat.reduceMul, Nat.reduceLeDiff, anext, hp_get0, hp_set0, hlt, hdd, aextract, List.getElem?_cons_succ, hI, hpos, ih]
    · obtain rfl : i = s.length := by omega
      rw [List.drop_length]
      have e : decide ((0 : Int) ≤ idxI isEnd s.length []) = false := rfl
      rw [go_head M l_strings_IndexAny_1.eq_1]
      simp (maxSteps := 3000000) (maxDischargeDepth := 6) +contextual -implicitDefEqProofs only [amC M, ↓amD, Nat.reduceBEq, Nat.reduceAdd, env, fargs, q_strings_IndexAny, anext, hp_get0, List.getElem?_cons_zero, Nat.lt_irrefl, aextract, e]
theorem idx_neg {α : Type} (p : α → Bool) : ∀ (l : List α) (i : Nat), decide ((0 : Int) ≤ idxI p i l) = false → idxI p i l = -1
  | [], _, _ => rfl
  | x :: l, i, h => by
    rw [idxI] at h ⊢
    cases hx : p x with
    | true => rw [hx] at h; simp [sel] at h
    | false => rw [hx] at h; exact idx_neg p l (i + 1) h
theorem run_IndexAny (hS : StrE E) (hX : ExtE M) {s : Str} (hs : s.length ≤ maxL) (H : List AObj) : M.run f_strings_IndexAny [.str s, .str [62, 125]] H = some (.ret (.int .i64 (idxI isEnd 0 s)), H) := by
  have h8 : ∀ H, M.run f_strings_shouldUseASCIISet [.int .i64 (s.length : Int)] H = some (.ret (.bool (decide ((8 : Int) < (s.length : Int)))), H) := fun H => by
    rw [run_c M hS.strings_shouldUseASCIISet rfl (c := c_strings_shouldUseASCIISet) rfl, c_strings_shouldUseASCIISet]
    simp (maxSteps := 3000000) (maxDischargeDepth := 6) +contextual -implicitDefEqProofs only [amC M, ↓amD, Nat.reduceBEq, Nat.reduceAdd, env, fargs, q_strings_shouldUseASCIISet]
  have e1 : (([62, 125] : Str) == []) = false := rfl
  have e2 : (((([62, 125] : Str).length : Nat) : Int) == 1) = false := rfl
  have hmk := run_mkA M hS
  rw [run_c M hS.strings_IndexAny rfl (c := c_strings_IndexAny) rfl, c_strings_IndexAny]
  cases hb : decide ((8 : Int) < (s.length : Int)) with
  | true =>
    rw [hb] at h8
    have hl := fun k He => ia0 M (H := H ++ [.cells asc2 t_strings_asciiSet]) (H0 := H) hS hs (p := H.length) (T := t_strings_asciiSet) (by rw [hp_get0]; rfl) (cut_app H _) k s.length 0 He (by omega)
    simp only [kv_cons, kv_nil, Int.ofNat_zero, List.drop_zero, hp_take] at hl
    have hst : stO 256 (H ++ [.cells rep256 t_strings_asciiSet]) H.length 0 asc2 (some (.cells rep256 t_strings_asciiSet)) = some (H ++ [.cells asc2 t_strings_asciiSet]) := by
      simp only [stO]; rw [if_pos ⟨rfl, by decide, rfl⟩, hp_set0, rep_set]; rfl
    have hac : acells (.agg asc2) = some asc2 := rfl
    simp (maxSteps := 3000000) (maxDischargeDepth := 6) +contextual -implicitDefEqProofs only [amC M, ↓amD, Nat.reduceBEq, Nat.reduceAdd, env, fargs, q_strings_IndexAny, ↓z256, e1, e2, h8, hmk, hac, hst, hp_get0, List.getElem?_cons_zero, (show ∀ H, runit (some H) = some (undefA, H) from fun _ => rfl), hl, cut_app, hp_take]
    exact idx_first _ _ _ _
  | false =>
    rw [hb] at h8
    have hl := fun k He => ia1 M hS hX hs (H0 := H) k s.length 0 He (by omega) (by omega)
    simp only [kv_cons, kv_nil, Int.ofNat_zero, List.drop_zero] at hl
    cases hp : decide ((0 : Int) ≤ idxI isEnd 0 s) with
    | true =>
      rw [hp] at hl
      simp (maxSteps := 3000000) (maxDischargeDepth := 6) +contextual -implicitDefEqProofs only [amC M, ↓amD, Nat.reduceBEq, Nat.reduceAdd, env, fargs, q_strings_IndexAny, e1, e2, h8, rrg, hl]
    | false =>
      rw [hp] at hl
      rw [idx_neg _ _ _ hp]
      simp (maxSteps := 3000000) (maxDischargeDepth := 6) +contextual -implicitDefEqProofs only [amC M, ↓amD, Nat.reduceBEq, Nat.reduceAdd, env, fargs, q_strings_IndexAny, e1, e2, h8, rrg, hl, cut_app, hp_take]
end Go.Am
end

section
set_option linter.unusedSimpArgs false
set_option linter.unusedVariables false
set_option maxRecDepth 100000
set_option maxHeartbeats 4000000
namespace Go.Am
open Go.RowKit
attribute [local congr] dsel_congr sel_c1 slc_cong gsel_congr go_congr aft_congr aftD_congr condR_congr backR_congr inR_congr at2_congr
variable {E : REnv} (M : Mach cdec E)

/-! The written forms of tags and holes -/
def plusS (x : Piece) : Str := sel x.car [43] []
def escF (s : Str) : Str := (s.map fun c => if ((c == 92) || (c == 60) || (c == 123)) = true then [92, c] else [c]).flatten
def wrF (x : Piece) : Str := sel (x.kind == 2) ([60] ++ plusS x ++ x.text ++ [62]) (sel (x.kind == 3) ([60, 47] ++ plusS x ++ x.text ++ [62]) (sel (x.kind == 4) ([60] ++ x.text ++ [47, 62]) (sel (x.kind == 5) ([123] ++ x.text ++ [125]) (escF x.text))))
def isTH (x : Piece) : Bool := (x.kind == 2) || (x.kind == 3) || (x.kind == 4) || (x.kind == 5)
theorem st_addO {s t : Str} (h : s.length + t.length < 9223372036854775808) : astrOp .add s t = some (.str (s ++ t)) := if_pos h
theorem run_written (hS : StrE E) {x : Piece} (hx : isTH x = true) (hl : x.text.length ≤ 70368744177664) (H : List AObj) : M.run f_docs_written [.agg x.row] H = some (.ret (.str (wrF x)), H) := by
  have hkind : x.kind = 2 ∨ x.kind = 3 ∨ x.kind = 4 ∨ x.kind = 5 := by simpa [isTH, or_assoc] using hx
  rw [run_c M hS.docs_written rfl (c := c_docs_written) rfl, c_docs_written]
  rcases hkind with e | e | e | e
  · cases hc : x.car with
    | true =>
      have F1 : astrOp .add ([60]) [43] = some (.str (60 :: [43])) := st_addO (by simp)
      have F2 : astrOp .add ([60, 43]) x.text = some (.str (60 :: 43 :: x.text)) := st_addO (by simp; omega)
      have F3 : astrOp .add (60 :: 43 :: x.text) [62] = some (.str (60 :: 43 :: (x.text ++ [62]))) := st_addO (by simp; omega)
      simp (maxSteps := 3000000) (maxDischargeDepth := 6) +contextual -implicitDefEqProofs only [amC M, ↓amD, Nat.reduceBEq, Nat.reduceAdd, env, fargs, q_docs_written, amG, AV.cell, Nat.reduceMul, Nat.reduceLeDiff, qPiece, hp_get0, e, hc, (show ((2 : Int) == 2) = true from rfl), (show ((2 : Int) == 3) = false from rfl), (show ((2 : Int) == 4) = false from rfl), (show ((2 : Int) == 5) = false from rfl), F1, F2, F3, wrF, plusS, cut_app, hp_take]
    | false =>
      have F1 : astrOp .add ([60]) [] = some (.str (60 :: [])) := st_addO (by simp)
      have F2 : astrOp .add ([60]) x.text = some (.str (60 :: x.text)) := st_addO (by simp; omega)
      have F3 : astrOp .add (60 :: x.text) [62] = some (.str (60 :: (x.text ++ [62]))) := st_addO (by simp; omega)
      simp (maxSteps := 3000000) (maxDischargeDepth := 6) +contextual -implicitDefEqProofs only [amC M, ↓amD, Nat.reduceBEq, Nat.reduceAdd, env, fargs, q_docs_written, amG, AV.cell, Nat.reduceMul, Nat.reduceLeDiff, qPiece, hp_get0, e, hc, (show ((2 : Int) == 2) = true from rfl), (show ((2 : Int) == 3) = false from rfl), (show ((2 : Int) == 4) = false from rfl), (show ((2 : Int) == 5) = false from rfl), F1, F2, F3, wrF, plusS, cut_app, hp_take]
  · cases hc : x.car with
    | true =>
      have F1 : astrOp .add ([60, 47]) [43] = some (.str (60 :: 47 :: [43])) := st_addO (by simp)
      have F2 : astrOp .add ([60, 47, 43]) x.text = some (.str (60 :: 47 :: 43 :: x.text)) := st_addO (by simp; omega)
      have F3 : astrOp .add (60 :: 47 :: 43 :: x.text) [62] = some (.str (60 :: 47 :: 43 :: (x.text ++ [62]))) := st_addO (by simp; omega)
      simp (maxSteps := 3000000) (maxDischargeDepth := 6) +contextual -implicitDefEqProofs only [amC M, ↓amD, Nat.reduceBEq, Nat.reduceAdd, env, fargs, q_docs_written, amG, AV.cell, Nat.reduceMul, Nat.reduceLeDiff, qPiece, hp_get0, e, hc, (show ((3 : Int) == 2) = false from rfl), (show ((3 : Int) == 3) = true from rfl), (show ((3 : Int) == 4) = false from rfl), (show ((3 : Int) == 5) = false from rfl), F1, F2, F3, wrF, plusS, cut_app, hp_take]
    | false =>
      have F1 : astrOp .add ([60, 47]) [] = some (.str (60 :: 47 :: [])) := st_addO (by simp)
      have F2 : astrOp .add ([60, 47]) x.text = some (.str (60 :: 47 :: x.text)) := st_addO (by simp; omega)
      have F3 : astrOp .add (60 :: 47 :: x.text) [62] = some (.str (60 :: 47 :: (x.text ++ [62]))) := st_addO (by simp; omega)
      simp (maxSteps := 3000000) (maxDischargeDepth := 6) +contextual -implicitDefEqProofs only [amC M, ↓amD, Nat.reduceBEq, Nat.reduceAdd, env, fargs, q_docs_written, amG, AV.cell, Nat.reduceMul, Nat.reduceLeDiff, qPiece, hp_get0, e, hc, (show ((3 : Int) == 2) = false from rfl), (show ((3 : Int) == 3) = true from rfl), (show ((3 : Int) == 4) = false from rfl), (show ((3 : Int) == 5) = false from rfl), F1, F2, F3, wrF, plusS, cut_app, hp_take]
  · cases hc : x.car with
    | true =>
      have F2 : astrOp .add ([60]) x.text = some (.str (60 :: x.text)) := st_addO (by simp; omega)
      have F3 : astrOp .add (60 :: x.text) [47, 62] = some (.str (60 :: (x.text ++ [47, 62]))) := st_addO (by simp; omega)
      simp (maxSteps := 3000000) (maxDischargeDepth := 6) +contextual -implicitDefEqProofs only [amC M, ↓amD, Nat.reduceBEq, Nat.reduceAdd, env, fargs, q_docs_written, amG, AV.cell, Nat.reduceMul, Nat.reduceLeDiff, qPiece, hp_get0, e, hc, (show ((4 : Int) == 2) = false from rfl), (show ((4 : Int) == 3) = false from rfl), (show ((4 : Int) == 4) = true from rfl), (show ((4 : Int) == 5) = false from rfl), F2, F3, wrF, plusS, cut_app, hp_take]
    | false =>
      have F2 : astrOp .add ([60]) x.text = some (.str (60 :: x.text)) := st_addO (by simp; omega)
      have F3 : astrOp .add (60 :: x.text) [47, 62] = some (.str (60 :: (x.text ++ [47, 62]))) := st_addO (by simp; omega)
      simp (maxSteps := 3000000) (maxDischargeDepth := 6) +contextual -implicitDefEqProofs only [amC M, ↓amD, Nat.reduceBEq, Nat.reduceAdd, env, fargs, q_docs_written, amG, AV.cell, Nat.reduceMul, Nat.reduceLeDiff, qPiece, hp_get0, e, hc, (show ((4 : Int) == 2) = false from rfl), (show ((4 : Int) == 3) = false from rfl), (show ((4 : Int) == 4) = true from rfl), (show ((4 : Int) == 5) = false from rfl), F2, F3, wrF, plusS, cut_app, hp_take]
  · cases hc : x.car with
    | true =>
      have F2 : astrOp .add ([123]) x.text = some (.str (123 :: x.text)) := st_addO (by simp; omega)
      have F3 : astrOp .add (123 :: x.text) [125] = some (.str (123 :: (x.text ++ [125]))) := st_addO (by simp; omega)
      simp (maxSteps := 3000000) (maxDischargeDepth := 6) +contextual -implicitDefEqProofs only [amC M, ↓amD, Nat.reduceBEq, Nat.reduceAdd, env, fargs, q_docs_written, amG, AV.cell, Nat.reduceMul, Nat.reduceLeDiff, qPiece, hp_get0, e, hc, (show ((5 : Int) == 2) = false from rfl), (show ((5 : Int) == 3) = false from rfl), (show ((5 : Int) == 4) = false from rfl), (show ((5 : Int) == 5) = true from rfl), F2, F3, wrF, plusS, cut_app, hp_take]
    | false =>
      have F2 : astrOp .add ([123]) x.text = some (.str (123 :: x.text)) := st_addO (by simp; omega)
      have F3 : astrOp .add (123 :: x.text) [125] = some (.str (123 :: (x.text ++ [125]))) := st_addO (by simp; omega)
      simp (maxSteps := 3000000) (maxDischargeDepth := 6) +contextual -implicitDefEqProofs only [amC M, ↓amD, Nat.reduceBEq, Nat.reduceAdd, env, fargs, q_docs_written, amG, AV.cell, Nat.reduceMul, Nat.reduceLeDiff, qPiece, hp_get0, e, hc, (show ((5 : Int) == 2) = false from rfl), (show ((5 : Int) == 3) = false from rfl), (show ((5 : Int) == 4) = false from rfl), (show ((5 : Int) == 5) = true from rfl), F2, F3, wrF, plusS, cut_app, hp_take]
end Go.Am
end

section
set_option linter.unusedSimpArgs false
set_option linter.unusedVariables false
set_option maxRecDepth 100000
set_option maxHeartbeats 4000000
namespace Go.Am
open Go.RowKit
attribute [local congr] dsel_congr sel_c1 slc_cong gsel_congr go_congr aft_congr aftD_congr condR_congr backR_congr inR_congr at2_congr
variable {E : REnv} (M : Mach cdec E)

theorem idxI_shift {p : UInt8 → Bool} : ∀ (l : Str) (i : Nat), (idxI p i l = -1 ∧ idxI p (i + 1) l = -1) ∨ ∃ j, j < l.length ∧ idxI p i l = ((i + j : Nat) : Int) ∧ idxI p (i + 1) l = ((i + 1 + j : Nat) : Int) ∧ p (l.getD j 0) = true ∧ ∀ k, k < j → p (l.getD k 0) = false
  | [], i => .inl ⟨rfl, rfl⟩
  | c :: l, i => by
    cases h : p c with
    | true => exact .inr ⟨0, by simp, by simp [idxI, h, sel], by simp [idxI, h, sel], h, fun k hk => absurd hk (Nat.not_lt_zero _)⟩
    | false =>
      rcases idxI_shift (p := p) l (i + 1) with ⟨h1, h2⟩ | ⟨j, h1, h2, h3, h4, h5⟩
      · exact .inl ⟨by simp [idxI, h, sel, h1], by simp [idxI, h, sel, h2]⟩
      · refine .inr ⟨j + 1, by simpa using h1, by simp [idxI, h, sel, h2]; omega, by simp [idxI, h, sel, h3]; omega, by simpa using h4, fun k hk => ?_⟩
        cases k with
        | zero => exact h
        | succ k => simpa using h5 k (by omega)

/-- What stands between, as a tag or a hole. -/
def mkB (c : UInt8) (b : Str) : Piece :=
  sel (c == 123) ⟨5, b, false⟩ (sel (hasPre b [47, 43]) ⟨3, b.drop 2, true⟩ (sel (hasPre b [47]) ⟨3, b.drop 1, false⟩ (sel (hasPre b [43]) ⟨2, b.drop 1, true⟩ (sel (hasSuf b [47]) ⟨4, b.take (b.length - 1), false⟩ ⟨2, b, false⟩))))
def mkT (c : UInt8) (t : Str) (j : Nat) : Bool := nameD (mkB c (t.take j)).text && (wrF (mkB c (t.take j)) == c :: t.take (j + 1))
/-- The tag or hole at the beginning of a text, and how long it is. -/
def mkO : Str → Option (Piece × Nat)
  | [] => none
  | c :: t => sel (decide (idxI isEnd 0 t < 0)) none (sel (mkT c t (idxI isEnd 0 t).toNat) (some (mkB c (t.take (idxI isEnd 0 t).toNat), (idxI isEnd 0 t).toNat + 2)) none)
def mkV (o : Option (Piece × Nat)) : AV := match o with
  | none => .tuple [.agg (Piece.row dP), .int .i64 0]
  | some (p, n) => .tuple [.agg p.row, .int .i64 (n : Int)]
theorem mkV_sel (b : Bool) (o : Option (Piece × Nat)) : mkV (sel b o none) = slc b (mkV o) (mkV none) := by cases b <;> rfl
theorem run_marked (hB : BasE E) (hS : StrE E) (hX : ExtE M) {c : UInt8} {t : Str} (hc : (c == 60) = true ∨ (c == 123) = true) (ht : t.length + 1 ≤ 70368744177664) (H : List AObj) :
    M.run f_docs_marked [.str (c :: t)] H = some (.ret (mkV (mkO (c :: t))), H) := by
  have hml : (c :: t).length ≤ maxL := by simp only [maxL, List.length_cons]; omega
  have hIA := fun H => run_IndexAny M hS hX hml H
  have hce : isEnd c = false := by rcases hc with h | h <;> (have := eq_of_beq h; subst this; rfl)
  have hz : dP.row = [.int .u8 0, .str [], .bool false] := rfl
  rw [mkO]
  rcases idxI_shift (p := isEnd) t 0 with ⟨h1, h2⟩ | ⟨j, hj, h1, h2, h3, h4⟩
  · have e : idxI isEnd 0 (c :: t) = -1 := by rw [idxI, hce, sel_false]; exact h2
    rw [h1, show decide ((-1 : Int) < 0) = true from rfl, sel_true]
    rw [e] at hIA
    rw [run_c M hS.docs_marked rfl (c := c_docs_marked) rfl, c_docs_marked]
    simp (maxSteps := 3000000) (maxDischargeDepth := 6) +contextual -implicitDefEqProofs only [amC M, ↓amD, Nat.reduceBEq, Nat.reduceAdd, env, fargs, q_docs_marked, amG, AV.cell, Nat.reduceMul, Nat.reduceLeDiff, hIA, (show decide ((-1 : Int) < 0) = true from rfl), hp_get0, hp_set0, mkV, hz, cut_app, hp_take]
  · have e : idxI isEnd 0 (c :: t) = ((1 + j : Nat) : Int) := by rw [idxI, hce, sel_false]; simpa using h2
    have e1 : idxI isEnd 0 t = (j : Int) := by simpa using h1
    have d0 : decide ((j : Int) < 0) = false := decide_eq_false (by omega)
    have d1 : decide (((1 + j : Nat) : Int) < 0) = false := decide_eq_false (by omega)
    have hsl : rsls (.str (c :: t)) (some (.int .i64 1)) (some (.int .i64 ((1 + j : Nat) : Int))) = some (.str (t.take j)) := by
      have := sls_both (s := c :: t) (k := .i64) (k' := .i64) (i := 1) (j := 1 + j) (by omega) (by simp; omega)
      rw [show ((1 : Nat) : Int) = 1 from rfl] at this
      rw [this, show 1 + j - 1 = j by omega]; rfl
    have hw : IntKind.i64.wrap (((1 + j : Nat) : Int) + 1) = ((j + 2 : Nat) : Int) := by rw [wrap_i64 (by omega) (by omega)]; omega
    have hs2 : rsls (.str (c :: t)) none (some (.int .i64 ((j + 2 : Nat) : Int))) = some (.str (c :: t.take (j + 1))) := by
      rw [sls_to (by simp; omega)]; rfl
    have hbl : (t.take j).length ≤ 70368744177664 := by simp; omega
    have hc0 : ((c.toNat : Int) == 123) = (c == 123) := by
      rw [Bool.eq_iff_iff, beq_iff_eq, beq_iff_eq]
      constructor
      · intro h; exact UInt8.toNat_inj.1 (by have : (123 : UInt8).toNat = 123 := rfl; omega)
      · rintro rfl; rfl
    rw [e1, d0, sel_false, show (j : Int).toNat = j from rfl, mkT, mkV_sel]
    rw [e] at hIA
    have hpx := fun p H => run_HasPrefix M hS (t.take j) p H
    have hsx := fun p H => run_HasSuffix M hS (s := t.take j) (by simp only [maxL]; omega) p H
    generalize t.take j = b at hsl hbl hpx hsx
    cases h5 : c == 123 with
    | true =>
      have hN := fun H => run_isName M hB (s := (⟨5, b, false⟩ : Piece).text) (by simp only [maxL, List.length_drop, List.length_take]; omega) H
      have hW := fun H => run_written M hS (x := ⟨5, b, false⟩) rfl (by simp only [List.length_drop, List.length_take]; omega) H
      have hm : mkB c b = ⟨5, b, false⟩ := by rw [mkB, h5]; rfl
      rw [hm]
      simp only [Piece.row] at hW
      rw [run_c M hS.docs_marked rfl (c := c_docs_marked) rfl, c_docs_marked]
      simp (maxSteps := 3000000) (maxDischargeDepth := 6) +contextual -implicitDefEqProofs only [amC M, ↓amD, Nat.reduceBEq, Nat.reduceAdd, env, fargs, q_docs_marked, amG, AV.cell, Nat.reduceMul, Nat.reduceLeDiff, hIA, d1, hsl, hw, hs2, qPiece, hp_get0, hp_set0, hc0, List.getElem?_cons_zero, hpx, hsx, mkV, hz, cut_app, hp_take, Piece.row, hN, hW, h5]
      rw [← Bool.not_and, slc_not]; rfl
    | false =>
    cases hp1 : hasPre b [47, 43] with
    | true =>
      have hl2 : 2 ≤ b.length := by unfold hasPre at hp1; simp at hp1; exact hp1.1
      have hs3 := sls_from (s := b) (k := .i64) (i := 2) hl2
      rw [show ((2 : Nat) : Int) = 2 from rfl] at hs3
      have hN := fun H => run_isName M hB (s := (⟨3, b.drop 2, true⟩ : Piece).text) (by simp only [maxL, List.length_drop, List.length_take]; omega) H
      have hW := fun H => run_written M hS (x := ⟨3, b.drop 2, true⟩) rfl (by simp only [List.length_drop, List.length_take]; omega) H
      have hm : mkB c b = ⟨3, b.drop 2, true⟩ := by rw [mkB, h5, hp1]; rfl
      rw [hm]
      simp only [Piece.row] at hW
      rw [run_c M hS.docs_marked rfl (c := c_docs_marked) rfl, c_docs_marked]
      simp (maxSteps := 3000000) (maxDischargeDepth := 6) +contextual -implicitDefEqProofs only [amC M, ↓amD, Nat.reduceBEq, Nat.reduceAdd, env, fargs, q_docs_marked, amG, AV.cell, Nat.reduceMul, Nat.reduceLeDiff, hIA, d1, hsl, hw, hs2, qPiece, hp_get0, hp_set0, hc0, List.getElem?_cons_zero, hpx, hsx, mkV, hz, cut_app, hp_take, Piece.row, hN, hW, hs3, h5, hp1]
      rw [← Bool.not_and, slc_not]; rfl
    | false =>
    cases hp2 : hasPre b [47] with
    | true =>
      have hl2 : 1 ≤ b.length := by unfold hasPre at hp2; simp at hp2; omega
      have hs3 := sls_from (s := b) (k := .i64) (i := 1) hl2
      rw [show ((1 : Nat) : Int) = 1 from rfl] at hs3
      have hN := fun H => run_isName M hB (s := (⟨3, b.drop 1, false⟩ : Piece).text) (by simp only [maxL, List.length_drop, List.length_take]; omega) H
      have hW := fun H => run_written M hS (x := ⟨3, b.drop 1, false⟩) rfl (by simp only [List.length_drop, List.length_take]; omega) H
      have hm : mkB c b = ⟨3, b.drop 1, false⟩ := by rw [mkB, h5, hp1, hp2]; rfl
      rw [hm]
      simp only [Piece.row] at hW
      rw [run_c M hS.docs_marked rfl (c := c_docs_marked) rfl, c_docs_marked]
      simp (maxSteps := 3000000) (maxDischargeDepth := 6) +contextual -implicitDefEqProofs only [amC M, ↓amD, Nat.reduceBEq, Nat.reduceAdd, env, fargs, q_docs_marked, amG, AV.cell, Nat.reduceMul, Nat.reduceLeDiff, hIA, d1, hsl, hw, hs2, qPiece, hp_get0, hp_set0, hc0, List.getElem?_cons_zero, hpx, hsx, mkV, hz, cut_app, hp_take, Piece.row, hN, hW, hs3, h5, hp1, hp2]
      rw [← Bool.not_and, slc_not]; rfl
    | false =>
    cases hp3 : hasPre b [43] with
    | true =>
      have hl2 : 1 ≤ b.length := by unfold hasPre at hp3; simp at hp3; omega
      have hs3 := sls_from (s := b) (k := .i64) (i := 1) hl2
      rw [show ((1 : Nat) : Int) = 1 from rfl] at hs3
      have hN := fun H => run_isName M hB (s := (⟨2, b.drop 1, true⟩ : Piece).text) (by simp only [maxL, List.length_drop, List.length_take]; omega) H
      have hW := fun H => run_written M hS (x := ⟨2, b.drop 1, true⟩) rfl (by simp only [List.length_drop, List.length_take]; omega) H
      have hm : mkB c b = ⟨2, b.drop 1, true⟩ := by rw [mkB, h5, hp1, hp2, hp3]; rfl
      rw [hm]
      simp only [Piece.row] at hW
      rw [run_c M hS.docs_marked rfl (c := c_docs_marked) rfl, c_docs_marked]
      simp (maxSteps := 3000000) (maxDischargeDepth := 6) +contextual -implicitDefEqProofs only [amC M, ↓amD, Nat.reduceBEq, Nat.reduceAdd, env, fargs, q_docs_marked, amG, AV.cell, Nat.reduceMul, Nat.reduceLeDiff, hIA, d1, hsl, hw, hs2, qPiece, hp_get0, hp_set0, hc0, List.getElem?_cons_zero, hpx, hsx, mkV, hz, cut_app, hp_take, Piece.row, hN, hW, hs3, h5, hp1, hp2, hp3]
      rw [← Bool.not_and, slc_not]; rfl
    | false =>
    cases hp4 : hasSuf b [47] with
    | true =>
      have hl2 : 1 ≤ b.length := by unfold hasSuf at hp4; simp at hp4; omega
      have hs3 := sls_to (s := b) (k := .i64) (i := b.length - 1) (by omega)
      have hw3 : IntKind.i64.wrap ((b.length : Int) - 1) = ((b.length - 1 : Nat) : Int) := by rw [wrap_i64 (by omega) (by omega)]; omega
      have hN := fun H => run_isName M hB (s := (⟨4, b.take (b.length - 1), false⟩ : Piece).text) (by simp only [maxL, List.length_drop, List.length_take]; omega) H
      have hW := fun H => run_written M hS (x := ⟨4, b.take (b.length - 1), false⟩) rfl (by simp only [List.length_drop, List.length_take]; omega) H
      have hm : mkB c b = ⟨4, b.take (b.length - 1), false⟩ := by rw [mkB, h5, hp1, hp2, hp3, hp4]; rfl
      rw [hm]
      simp only [Piece.row] at hW
      rw [run_c M hS.docs_marked rfl (c := c_docs_marked) rfl, c_docs_marked]
      simp (maxSteps := 3000000) (maxDischargeDepth := 6) +contextual -implicitDefEqProofs only [amC M, ↓amD, Nat.reduceBEq, Nat.reduceAdd, env, fargs, q_docs_marked, amG, AV.cell, Nat.reduceMul, Nat.reduceLeDiff, hIA, d1, hsl, hw, hs2, qPiece, hp_get0, hp_set0, hc0, List.getElem?_cons_zero, hpx, hsx, mkV, hz, cut_app, hp_take, Piece.row, hN, hW, hs3, hw3, h5, hp1, hp2, hp3, hp4]
      rw [← Bool.not_and, slc_not]; rfl
    | false =>
      have hN := fun H => run_isName M hB (s := (⟨2, b, false⟩ : Piece).text) (by simp only [maxL, List.length_drop, List.length_take]; omega) H
      have hW := fun H => run_written M hS (x := ⟨2, b, false⟩) rfl (by simp only [List.length_drop, List.length_take]; omega) H
      have hm : mkB c b = ⟨2, b, false⟩ := by rw [mkB, h5, hp1, hp2, hp3, hp4]; rfl
      rw [hm]
      simp only [Piece.row] at hW
      rw [run_c M hS.docs_marked rfl (c := c_docs_marked) rfl, c_docs_marked]
      simp (maxSteps := 3000000) (maxDischargeDepth := 6) +contextual -implicitDefEqProofs only [amC M, ↓amD, Nat.reduceBEq, Nat.reduceAdd, env, fargs, q_docs_marked, amG, AV.cell, Nat.reduceMul, Nat.reduceLeDiff, hIA, d1, hsl, hw, hs2, qPiece, hp_get0, hp_set0, hc0, List.getElem?_cons_zero, hpx, hsx, mkV, hz, cut_app, hp_take, Piece.row, hN, hW, h5, hp1, hp2, hp3, hp4]
      rw [← Bool.not_and, slc_not]; rfl
end Go.Am
end

section
set_option linter.unusedSimpArgs false
set_option linter.unusedVariables false
set_option maxRecDepth 100000
set_option maxHeartbeats 4000000
namespace Go.Am
open Go.RowKit
attribute [local congr] dsel_congr sel_c1 slc_cong gsel_congr go_congr aft_congr aftD_congr condR_congr backR_congr inR_congr at2_congr
variable {E : REnv} (M : Mach cdec E)

theorem byteI (c d : UInt8) : ((c.toNat : Int) == (d.toNat : Int)) = (c == d) := by
  rw [Bool.eq_iff_iff, beq_iff_eq, beq_iff_eq]
  exact ⟨fun h => UInt8.toNat_inj.1 (by omega), fun h => by rw [h]⟩
theorem byteN (c d : UInt8) : (c.toNat == d.toNat) = (c == d) := by
  rw [Bool.eq_iff_iff, beq_iff_eq, beq_iff_eq]
  exact ⟨fun h => UInt8.toNat_inj.1 h, fun h => by rw [h]⟩
theorem qB (c : UInt8) : ((c.toNat : Int) == 92) = (c == 92) ∧ ((c.toNat : Int) == 60) = (c == 60) ∧ ((c.toNat : Int) == 123) = (c == 123) ∧ ((c.toNat : Int) == 125) = (c == 125) ∧ ((c.toNat : Int) == 62) = (c == 62) ∧ ((c.toNat : Int) == 47) = (c == 47) ∧ ((c.toNat : Int) == 43) = (c == 43) ∧ ((c.toNat : Int) == 32) = (c == 32) ∧ ((c.toNat : Int) == 10) = (c == 10) :=
  ⟨byteI c 92, byteI c 60, byteI c 123, byteI c 125, byteI c 62, byteI c 47, byteI c 43, byteI c 32, byteI c 10⟩
theorem escF_cons (c : UInt8) (t : Str) : escF (c :: t) = (if ((c == 92) || (c == 60) || (c == 123)) = true then [92, c] else [c]) ++ escF t := rfl
theorem rwl {x : Piece} (hl : x.text.length ≤ 70368744177664) {H H0 : List AObj} {p : Nat} {T : TypeId} (hp : H[p]? = some (.cells x.row T)) (k : List Fra) : ∀ (n i : Nat) (He : List AObj) (a : Str), i + n = x.text.length → a.length ≤ 2 * i →
    M.go a_truchmanref01_written H0 (.c l_truchmanref01_written_0 :: .lp ⟨(some [1, 4, 5]), [], false⟩ l_truchmanref01_written_0 He :: .blk 1 :: .c (.lv [4]) :: k) (kv [(1, .ptr p 0), (4, .str a), (5, .int .i64 i)]) H = M.go a_truchmanref01_written H0 k (kv [(4, .str (a ++ escF (x.text.drop i)))]) H
  | 0, i, He, a, h, ha => by
    obtain rfl : i = x.text.length := by omega
    rw [List.drop_length, show escF [] = [] from rfl, List.append_nil]
    rw [go_head M l_truchmanref01_written_0.eq_1]
    simp (maxSteps := 3000000) (maxDischargeDepth := 6) +contextual -implicitDefEqProofs only [amC M, ↓amD, Nat.reduceBEq, Nat.reduceAdd, env, fargs, q_truchmanref01_written, hp, qPiece, Nat.lt_irrefl]
  | n + 1, i, He, a, h, ha => by
    have hi : i < x.text.length := by omega
    have hx : x.text[i]? = some x.text[i] := List.getElem?_eq_getElem hi
    have hd : x.text.drop i = x.text[i] :: x.text.drop (i + 1) := List.drop_eq_getElem_cons hi
    rw [hd, escF_cons]
    have hsl : rsls (.str x.text) (some (.int .i64 (i : Int))) (some (.int .i64 ((i + 1 : Nat) : Int))) = some (.str [x.text[i]]) := by
      rw [sls_both (by omega) (by omega), hd, show i + 1 - i = 1 by omega]; rfl
    generalize x.text[i] = c at *
    have hws : IntKind.i64.wrap ((i : Int) + 1) = ((i + 1 : Nat) : Int) := wrap_s hi (by simp only [maxL]; omega)
    cases hc : (c == 92) || (c == 60) || (c == 123) with
    | true =>
      have ih := fun He => rwl (H0 := H0) hl hp k n (i + 1) He (a ++ [92] ++ [c]) (by omega) (by simp; omega)
      have f1 : astrOp .add a [92] = some (.str (a ++ [92])) := st_addO (by simp; omega)
      have f2 : astrOp .add (a ++ [92]) [c] = some (.str (a ++ [92] ++ [c])) := st_addO (by simp; omega)
      rw [if_pos rfl, show a ++ ([92, c] ++ escF (x.text.drop (i + 1))) = a ++ [92] ++ [c] ++ escF (x.text.drop (i + 1)) by simp]
      simp only [kv_cons, kv_nil] at ih ⊢
      rw [go_head M l_truchmanref01_written_0.eq_1]
      simp (maxSteps := 3000000) (maxDischargeDepth := 6) +contextual -implicitDefEqProofs only [amC M, ↓amD, Nat.reduceBEq, Nat.reduceAdd, env, fargs, q_truchmanref01_written, hp, qPiece, hi, hx, qB, hc, hsl, hws, f1, f2, ih]
    | false =>
      have ih := fun He => rwl (H0 := H0) hl hp k n (i + 1) He (a ++ [c]) (by omega) (by simp; omega)
      have f2 : astrOp .add a [c] = some (.str (a ++ [c])) := st_addO (by simp; omega)
      rw [if_neg (by simp), show a ++ ([c] ++ escF (x.text.drop (i + 1))) = a ++ [c] ++ escF (x.text.drop (i + 1)) by simp]
      simp only [kv_cons, kv_nil] at ih ⊢
      rw [go_head M l_truchmanref01_written_0.eq_1]
      simp (maxSteps := 3000000) (maxDischargeDepth := 6) +contextual -implicitDefEqProofs only [amC M, ↓amD, Nat.reduceBEq, Nat.reduceAdd, env, fargs, q_truchmanref01_written, hp, qPiece, hi, hx, qB, hc, hsl, hws, f2, ih]
theorem run_rwritten (hS : StrE E) {x : Piece} (hl : x.text.length ≤ 70368744177664) (H : List AObj) : M.run f_truchmanref01_written [.agg x.row] H = some (.ret (.str (wrF x)), H) := by
  rw [run_c M hS.truchmanref01_written rfl (c := c_truchmanref01_written) rfl, c_truchmanref01_written]
  by_cases e2 : x.kind = 2
  · cases hc : x.car with
    | true =>
      have F1 : astrOp .add ([60]) [43] = some (.str (60 :: [43])) := st_addO (by simp)
      have F2 : astrOp .add ([60, 43]) x.text = some (.str (60 :: 43 :: x.text)) := st_addO (by simp; omega)
      have F3 : astrOp .add (60 :: 43 :: x.text) [62] = some (.str (60 :: 43 :: (x.text ++ [62]))) := st_addO (by simp; omega)
      simp (maxSteps := 3000000) (maxDischargeDepth := 6) +contextual -implicitDefEqProofs only [amC M, ↓amD, Nat.reduceBEq, Nat.reduceAdd, env, fargs, q_truchmanref01_written, amG, AV.cell, Nat.reduceMul, Nat.reduceLeDiff, qPiece, hp_get0, e2, hc, (show ((2 : Int) == 2) = true from rfl), (show ((2 : Int) == 3) = false from rfl), (show ((2 : Int) == 4) = false from rfl), (show ((2 : Int) == 5) = false from rfl), F1, F2, F3, wrF, plusS, cut_app, hp_take]
    | false =>
      have F1 : astrOp .add ([60]) [] = some (.str (60 :: [])) := st_addO (by simp)
      have F2 : astrOp .add ([60]) x.text = some (.str (60 :: x.text)) := st_addO (by simp; omega)
      have F3 : astrOp .add (60 :: x.text) [62] = some (.str (60 :: (x.text ++ [62]))) := st_addO (by simp; omega)
      simp (maxSteps := 3000000) (maxDischargeDepth := 6) +contextual -implicitDefEqProofs only [amC M, ↓amD, Nat.reduceBEq, Nat.reduceAdd, env, fargs, q_truchmanref01_written, amG, AV.cell, Nat.reduceMul, Nat.reduceLeDiff, qPiece, hp_get0, e2, hc, (show ((2 : Int) == 2) = true from rfl), (show ((2 : Int) == 3) = false from rfl), (show ((2 : Int) == 4) = false from rfl), (show ((2 : Int) == 5) = false from rfl), F1, F2, F3, wrF, plusS, cut_app, hp_take]
  by_cases e3 : x.kind = 3
  · cases hc : x.car with
    | true =>
      have F1 : astrOp .add ([60, 47]) [43] = some (.str (60 :: 47 :: [43])) := st_addO (by simp)
      have F2 : astrOp .add ([60, 47, 43]) x.text = some (.str (60 :: 47 :: 43 :: x.text)) := st_addO (by simp; omega)
      have F3 : astrOp .add (60 :: 47 :: 43 :: x.text) [62] = some (.str (60 :: 47 :: 43 :: (x.text ++ [62]))) := st_addO (by simp; omega)
      simp (maxSteps := 3000000) (maxDischargeDepth := 6) +contextual -implicitDefEqProofs only [amC M, ↓amD, Nat.reduceBEq, Nat.reduceAdd, env, fargs, q_truchmanref01_written, amG, AV.cell, Nat.reduceMul, Nat.reduceLeDiff, qPiece, hp_get0, e3, hc, (show ((3 : Int) == 2) = false from rfl), (show ((3 : Int) == 3) = true from rfl), (show ((3 : Int) == 4) = false from rfl), (show ((3 : Int) == 5) = false from rfl), F1, F2, F3, wrF, plusS, cut_app, hp_take]
    | false =>
      have F1 : astrOp .add ([60, 47]) [] = some (.str (60 :: 47 :: [])) := st_addO (by simp)
      have F2 : astrOp .add ([60, 47]) x.text = some (.str (60 :: 47 :: x.text)) := st_addO (by simp; omega)
      have F3 : astrOp .add (60 :: 47 :: x.text) [62] = some (.str (60 :: 47 :: (x.text ++ [62]))) := st_addO (by simp; omega)
      simp (maxSteps := 3000000) (maxDischargeDepth := 6) +contextual -implicitDefEqProofs only [amC M, ↓amD, Nat.reduceBEq, Nat.reduceAdd, env, fargs, q_truchmanref01_written, amG, AV.cell, Nat.reduceMul, Nat.reduceLeDiff, qPiece, hp_get0, e3, hc, (show ((3 : Int) == 2) = false from rfl), (show ((3 : Int) == 3) = true from rfl), (show ((3 : Int) == 4) = false from rfl), (show ((3 : Int) == 5) = false from rfl), F1, F2, F3, wrF, plusS, cut_app, hp_take]
  by_cases e4 : x.kind = 4
  · cases hc : x.car with
    | true =>
      have F2 : astrOp .add ([60]) x.text = some (.str (60 :: x.text)) := st_addO (by simp; omega)
      have F3 : astrOp .add (60 :: x.text) [47, 62] = some (.str (60 :: (x.text ++ [47, 62]))) := st_addO (by simp; omega)
      simp (maxSteps := 3000000) (maxDischargeDepth := 6) +contextual -implicitDefEqProofs only [amC M, ↓amD, Nat.reduceBEq, Nat.reduceAdd, env, fargs, q_truchmanref01_written, amG, AV.cell, Nat.reduceMul, Nat.reduceLeDiff, qPiece, hp_get0, e4, hc, (show ((4 : Int) == 2) = false from rfl), (show ((4 : Int) == 3) = false from rfl), (show ((4 : Int) == 4) = true from rfl), (show ((4 : Int) == 5) = false from rfl), F2, F3, wrF, plusS, cut_app, hp_take]
    | false =>
      have F2 : astrOp .add ([60]) x.text = some (.str (60 :: x.text)) := st_addO (by simp; omega)
      have F3 : astrOp .add (60 :: x.text) [47, 62] = some (.str (60 :: (x.text ++ [47, 62]))) := st_addO (by simp; omega)
      simp (maxSteps := 3000000) (maxDischargeDepth := 6) +contextual -implicitDefEqProofs only [amC M, ↓amD, Nat.reduceBEq, Nat.reduceAdd, env, fargs, q_truchmanref01_written, amG, AV.cell, Nat.reduceMul, Nat.reduceLeDiff, qPiece, hp_get0, e4, hc, (show ((4 : Int) == 2) = false from rfl), (show ((4 : Int) == 3) = false from rfl), (show ((4 : Int) == 4) = true from rfl), (show ((4 : Int) == 5) = false from rfl), F2, F3, wrF, plusS, cut_app, hp_take]
  by_cases e5 : x.kind = 5
  · cases hc : x.car with
    | true =>
      have F2 : astrOp .add ([123]) x.text = some (.str (123 :: x.text)) := st_addO (by simp; omega)
      have F3 : astrOp .add (123 :: x.text) [125] = some (.str (123 :: (x.text ++ [125]))) := st_addO (by simp; omega)
      simp (maxSteps := 3000000) (maxDischargeDepth := 6) +contextual -implicitDefEqProofs only [amC M, ↓amD, Nat.reduceBEq, Nat.reduceAdd, env, fargs, q_truchmanref01_written, amG, AV.cell, Nat.reduceMul, Nat.reduceLeDiff, qPiece, hp_get0, e5, hc, (show ((5 : Int) == 2) = false from rfl), (show ((5 : Int) == 3) = false from rfl), (show ((5 : Int) == 4) = false from rfl), (show ((5 : Int) == 5) = true from rfl), F2, F3, wrF, plusS, cut_app, hp_take]
    | false =>
      have F2 : astrOp .add ([123]) x.text = some (.str (123 :: x.text)) := st_addO (by simp; omega)
      have F3 : astrOp .add (123 :: x.text) [125] = some (.str (123 :: (x.text ++ [125]))) := st_addO (by simp; omega)
      simp (maxSteps := 3000000) (maxDischargeDepth := 6) +contextual -implicitDefEqProofs only [amC M, ↓amD, Nat.reduceBEq, Nat.reduceAdd, env, fargs, q_truchmanref01_written, amG, AV.cell, Nat.reduceMul, Nat.reduceLeDiff, qPiece, hp_get0, e5, hc, (show ((5 : Int) == 2) = false from rfl), (show ((5 : Int) == 3) = false from rfl), (show ((5 : Int) == 4) = false from rfl), (show ((5 : Int) == 5) = true from rfl), F2, F3, wrF, plusS, cut_app, hp_take]
  have g2 : (x.kind == 2) = false := by simpa using e2
  have g3 : (x.kind == 3) = false := by simpa using e3
  have g4 : (x.kind == 4) = false := by simpa using e4
  have g5 : (x.kind == 5) = false := by simpa using e5
  have hlp := fun k He => rwl M hl (H := H ++ [.cells x.row t_api_Piece]) (H0 := H) (p := H.length) (T := t_api_Piece) (by rw [hp_get0]; rfl) k x.text.length 0 He [] (by omega) (by simp)
  simp only [kv_cons, kv_nil, Int.ofNat_zero, List.drop_zero, List.nil_append] at hlp
  cases hc : x.car with
  | true => simp (maxSteps := 3000000) (maxDischargeDepth := 6) +contextual -implicitDefEqProofs only [amC M, ↓amD, Nat.reduceBEq, Nat.reduceAdd, env, fargs, q_truchmanref01_written, amG, AV.cell, Nat.reduceMul, Nat.reduceLeDiff, qPiece, hp_get0, hc, g2, g3, g4, g5, hlp, wrF, cut_app, hp_take]
  | false => simp (maxSteps := 3000000) (maxDischargeDepth := 6) +contextual -implicitDefEqProofs only [amC M, ↓amD, Nat.reduceBEq, Nat.reduceAdd, env, fargs, q_truchmanref01_written, amG, AV.cell, Nat.reduceMul, Nat.reduceLeDiff, qPiece, hp_get0, hc, g2, g3, g4, g5, hlp, wrF, cut_app, hp_take]

/-! The first place of a byte -/
theorem upl {H H0 : List AObj} {s : Str} (hs : s.length ≤ maxL) (c : UInt8) (hc : CutOk H0 H) (k : List Fra) : ∀ (n i : Nat) (He : List AObj), i + n = s.length →
    M.go a_truchmanref01_upTo H0 (.c l_truchmanref01_upTo_0 :: .lp ⟨(some [0, 2, 7]), [], false⟩ l_truchmanref01_upTo_0 He :: .blk 0 :: .c (.lv []) :: k) (kv [(0, .str s), (2, .int .u8 c.toNat), (7, .int .i64 i)]) H =
      orE (firstE (idxF fun d => d == c) i (s.drop i)) (H.take H0.length) (M.go a_truchmanref01_upTo H0 k .leaf H)
  | 0, i, He, h => by
    have e : i = s.length := by omega
    subst e
    rw [go_head M l_truchmanref01_upTo_0.eq_1]
    simp (maxSteps := 3000000) (maxDischargeDepth := 6) +contextual -implicitDefEqProofs only [amC M, ↓amD, Nat.reduceBEq, Nat.reduceAdd, env, fargs, q_truchmanref01_upTo, Nat.lt_irrefl, List.drop_length]
  | n + 1, i, He, h => by
    have hi : i < s.length := by omega
    have hx : s[i]? = some s[i] := List.getElem?_eq_getElem hi
    have hd : (s.drop i) = s[i] :: s.drop (i + 1) := List.drop_eq_getElem_cons hi
    have hm : s[i] ∈ s := List.getElem_mem hi
    have ih := fun He => upl (H := H) (H0 := H0) (s := s) (hs := hs) (c := c) hc k n (i + 1)  He (by omega)
    simp only [kv_cons, kv_nil] at ih
    rw [go_head M l_truchmanref01_upTo_0.eq_1]
    simp (maxSteps := 3000000) (maxDischargeDepth := 6) +contextual -implicitDefEqProofs only [amC M, ↓amD, Nat.reduceBEq, Nat.reduceAdd, env, fargs, q_truchmanref01_upTo, hx, hd, hi, ih, wrap_s hi hs, byteN, idxF, hc]
theorem run_upTo (hS : StrE E) {s : Str} (hs : s.length ≤ maxL) {i : Nat} (hi : i ≤ s.length) (c : UInt8) (H : List AObj) : M.run f_truchmanref01_upTo [.str s, .int .i64 i, .int .u8 c.toNat] H = some (.ret (.int .i64 (idxI (fun d => d == c) i (s.drop i))), H) := by
  rw [run_c M hS.truchmanref01_upTo rfl (c := c_truchmanref01_upTo) rfl, c_truchmanref01_upTo]
  have hl := fun k He => upl M (s := s) hs c (cut_refl H) k (s.length - i) i He (by omega)
  simp only [kv_cons, kv_nil] at hl
  simp (maxSteps := 3000000) (maxDischargeDepth := 6) +contextual -implicitDefEqProofs only [amC M, ↓amD, Nat.reduceBEq, Nat.reduceAdd, env, fargs, q_truchmanref01_upTo, hl]
  exact idx_first _ _ _ _

/-! What a text is as a tag or a hole -/
def plusR (x : Piece) : Piece := match x.text with
  | [] => x
  | d :: u => sel ((d == 43) && ((x.kind == 2) || (x.kind == 3))) ⟨x.kind, u, true⟩ x
def finR (s : Str) (x : Piece) : Piece × Bool := (plusR x, nameD (plusR x).text && (wrF (plusR x) == s))
def rmk (s : Str) : Piece × Bool :=
  sel (decide ((s.length : Int) < 3)) (dP, false) (sel ((s.getD 0 0 == 123) && (s.getD (s.length - 1) 0 == 125)) (finR s ⟨5, (s.drop 1).take (s.length - 2), false⟩)
    (sel (!(s.getD 0 0 == 60) || !(s.getD (s.length - 1) 0 == 62)) (⟨2, (s.drop 1).take (s.length - 2), false⟩, false)
      (sel (s.getD 1 0 == 47) (finR s ⟨3, (s.drop 2).take (s.length - 3), false⟩) (sel (s.getD (s.length - 2) 0 == 47) (finR s ⟨4, (s.drop 1).take (s.length - 3), false⟩) (finR s ⟨2, (s.drop 1).take (s.length - 2), false⟩)))))
def rmkV (r : Piece × Bool) : AV := .tuple [.agg r.1.row, .bool r.2]
theorem run_rmarked (hB : BasE E) (hS : StrE E) {s : Str} (hs : s.length ≤ 70368744177664) (H : List AObj) : M.run f_truchmanref01_marked [.str s] H = some (.ret (rmkV (rmk s)), H) := by
  have hz : dP.row = [.int .u8 0, .str [], .bool false] := rfl
  rw [rmk]
  cases h3 : decide ((s.length : Int) < 3) with
  | true =>
    rw [run_c M hS.truchmanref01_marked rfl (c := c_truchmanref01_marked) rfl, c_truchmanref01_marked]
    simp (maxSteps := 3000000) (maxDischargeDepth := 6) +contextual -implicitDefEqProofs only [amC M, ↓amD, Nat.reduceBEq, Nat.reduceAdd, env, fargs, q_truchmanref01_marked, amG, AV.cell, Nat.reduceMul, Nat.reduceLeDiff, h3, hp_get0, hp_set0, rmkV, hz, cut_app, hp_take]
  | false =>
  have hn : 3 ≤ s.length := by have := of_decide_eq_false h3; omega
  have x0 : s[0]? = some (s.getD 0 0) := by rw [List.getD, List.getElem?_eq_getElem (show 0 < s.length by omega)]; rfl
  have x1 : s[1]? = some (s.getD 1 0) := by rw [List.getD, List.getElem?_eq_getElem (show 1 < s.length by omega)]; rfl
  have xl : s[s.length - 1]? = some (s.getD (s.length - 1) 0) := by rw [List.getD, List.getElem?_eq_getElem (show s.length - 1 < s.length by omega)]; rfl
  have xp : s[s.length - 2]? = some (s.getD (s.length - 2) 0) := by rw [List.getD, List.getElem?_eq_getElem (show s.length - 2 < s.length by omega)]; rfl
  have hw1 : IntKind.i64.wrap ((s.length : Int) - 1) = ((s.length - 1 : Nat) : Int) := by rw [wrap_i64 (by omega) (by omega)]; omega
  have hw2 : IntKind.i64.wrap ((s.length : Int) - 2) = ((s.length - 2 : Nat) : Int) := by rw [wrap_i64 (by omega) (by omega)]; omega
  have sA := sls_both (s := s) (k := .i64) (k' := .i64) (i := 1) (j := s.length - 1) (by omega) (by omega)
  have sB := sls_both (s := s) (k := .i64) (k' := .i64) (i := 2) (j := s.length - 1) (by omega) (by omega)
  have sC := sls_both (s := s) (k := .i64) (k' := .i64) (i := 1) (j := s.length - 2) (by omega) (by omega)
  rw [show ((1 : Nat) : Int) = 1 from rfl, show s.length - 1 - 1 = s.length - 2 by omega] at sA
  rw [show ((2 : Nat) : Int) = 2 from rfl, show s.length - 1 - 2 = s.length - 3 by omega] at sB
  rw [show ((1 : Nat) : Int) = 1 from rfl, show s.length - 2 - 1 = s.length - 3 by omega] at sC
  have bA : ((s.drop 1).take (s.length - 2)).length ≤ 70368744177664 := by simp; omega
  have bB : ((s.drop 2).take (s.length - 3)).length ≤ 70368744177664 := by simp; omega
  have bC : ((s.drop 1).take (s.length - 3)).length ≤ 70368744177664 := by simp; omega
  have hN := fun (x : Piece) (h : x.text.length ≤ 70368744177664) H => run_Name M hB (s := x.text) (by simp only [maxL]; omega) H
  have hW := fun (x : Piece) (h : x.text.length ≤ 70368744177664) H => run_rwritten M hS (x := x) h H
  generalize (s.drop 1).take (s.length - 2) = A at *
  generalize (s.drop 2).take (s.length - 3) = B at *
  generalize (s.drop 1).take (s.length - 3) = C at *
  cases c1 : (s.getD 0 0 == 123) && (s.getD (s.length - 1) 0 == 125) with
  | true =>
    cases A with
    | nil =>
      have hN1 := hN ⟨5, [], false⟩ (by simp at * <;> omega)
      have hW1 := hW ⟨5, [], false⟩ (by simp at * <;> omega)
      simp only [Piece.row] at hW1
      rw [run_c M hS.truchmanref01_marked rfl (c := c_truchmanref01_marked) rfl, c_truchmanref01_marked]
      simp (maxSteps := 3000000) (maxDischargeDepth := 6) +contextual -implicitDefEqProofs only [amC M, ↓amD, Nat.reduceBEq, Nat.reduceAdd, env, fargs, q_truchmanref01_marked, amG, AV.cell, Nat.reduceMul, Nat.reduceLeDiff, h3, x0, x1, xl, xp, hw1, hw2, sA, sB, sC, qB, qPiece, hp_get0, hp_set0, rmkV, finR, plusR, Piece.row, cut_app, hp_take, hN1, hW1, (show ((5 : Int) == 2) = false from rfl), (show ((5 : Int) == 3) = false from rfl), List.length_nil, (show decide ((0 : Int) < ((0 : Nat) : Int)) = false from rfl), c1]
    | cons d u =>
      have hgt : decide ((0 : Int) < (((d :: u).length : Nat) : Int)) = true := decide_eq_true (by simp <;> omega)
      have hgt2 : decide ((0 : Int) < ((u.length + 1 : Nat) : Int)) = true := hgt
      have hN1 := hN ⟨5, d :: u, false⟩ (by simp at * <;> omega)
      have hW1 := hW ⟨5, d :: u, false⟩ (by simp at * <;> omega)
      simp only [Piece.row] at hW1
      rw [run_c M hS.truchmanref01_marked rfl (c := c_truchmanref01_marked) rfl, c_truchmanref01_marked]
      simp (maxSteps := 3000000) (maxDischargeDepth := 6) +contextual -implicitDefEqProofs only [amC M, ↓amD, Nat.reduceBEq, Nat.reduceAdd, env, fargs, q_truchmanref01_marked, amG, AV.cell, Nat.reduceMul, Nat.reduceLeDiff, h3, x0, x1, xl, xp, hw1, hw2, sA, sB, sC, qB, qPiece, hp_get0, hp_set0, rmkV, finR, plusR, Piece.row, cut_app, hp_take, hN1, hW1, (show ((5 : Int) == 2) = false from rfl), (show ((5 : Int) == 3) = false from rfl), hgt, hgt2, List.getElem?_cons_zero, c1]
  | false =>
  cases c2 : !(s.getD 0 0 == 60) || !(s.getD (s.length - 1) 0 == 62) with
  | true =>
    rw [run_c M hS.truchmanref01_marked rfl (c := c_truchmanref01_marked) rfl, c_truchmanref01_marked]
    simp (maxSteps := 3000000) (maxDischargeDepth := 6) +contextual -implicitDefEqProofs only [amC M, ↓amD, Nat.reduceBEq, Nat.reduceAdd, env, fargs, q_truchmanref01_marked, amG, AV.cell, Nat.reduceMul, Nat.reduceLeDiff, h3, x0, x1, xl, xp, hw1, hw2, sA, sB, sC, qB, qPiece, hp_get0, hp_set0, rmkV, finR, plusR, Piece.row, cut_app, hp_take, c1, c2]
  | false =>
  cases c3 : s.getD 1 0 == 47 with
  | true =>
    cases B with
    | nil =>
      have hN1 := hN ⟨3, [], false⟩ (by simp at * <;> omega)
      have hW1 := hW ⟨3, [], false⟩ (by simp at * <;> omega)
      simp only [Piece.row] at hW1
      rw [run_c M hS.truchmanref01_marked rfl (c := c_truchmanref01_marked) rfl, c_truchmanref01_marked]
      simp (maxSteps := 3000000) (maxDischargeDepth := 6) +contextual -implicitDefEqProofs only [amC M, ↓amD, Nat.reduceBEq, Nat.reduceAdd, env, fargs, q_truchmanref01_marked, amG, AV.cell, Nat.reduceMul, Nat.reduceLeDiff, h3, x0, x1, xl, xp, hw1, hw2, sA, sB, sC, qB, qPiece, hp_get0, hp_set0, rmkV, finR, plusR, Piece.row, cut_app, hp_take, hN1, hW1, (show ((3 : Int) == 2) = false from rfl), (show ((3 : Int) == 3) = true from rfl), List.length_nil, (show decide ((0 : Int) < ((0 : Nat) : Int)) = false from rfl), c1, c2, c3]
    | cons d u =>
      have hgt : decide ((0 : Int) < (((d :: u).length : Nat) : Int)) = true := decide_eq_true (by simp <;> omega)
      have hgt2 : decide ((0 : Int) < ((u.length + 1 : Nat) : Int)) = true := hgt
      have hs1 := sls_from (s := d :: u) (k := .i64) (i := 1) (by simp)
      rw [show ((1 : Nat) : Int) = 1 from rfl, List.drop_succ_cons, List.drop_zero] at hs1
      cases hd : d == 43 with
      | true =>
        have hN1 := hN ⟨3, u, true⟩ (by simp at * <;> omega)
        have hW1 := hW ⟨3, u, true⟩ (by simp at * <;> omega)
        simp only [Piece.row] at hW1
        rw [run_c M hS.truchmanref01_marked rfl (c := c_truchmanref01_marked) rfl, c_truchmanref01_marked]
        simp (maxSteps := 3000000) (maxDischargeDepth := 6) +contextual -implicitDefEqProofs only [amC M, ↓amD, Nat.reduceBEq, Nat.reduceAdd, env, fargs, q_truchmanref01_marked, amG, AV.cell, Nat.reduceMul, Nat.reduceLeDiff, h3, x0, x1, xl, xp, hw1, hw2, sA, sB, sC, qB, qPiece, hp_get0, hp_set0, rmkV, finR, plusR, Piece.row, cut_app, hp_take, hN1, hW1, (show ((3 : Int) == 2) = false from rfl), (show ((3 : Int) == 3) = true from rfl), hgt, hgt2, hd, hs1, List.getElem?_cons_zero, c1, c2, c3]
      | false =>
        have hN1 := hN ⟨3, d :: u, false⟩ (by simp at * <;> omega)
        have hW1 := hW ⟨3, d :: u, false⟩ (by simp at * <;> omega)
        simp only [Piece.row] at hW1
        rw [run_c M hS.truchmanref01_marked rfl (c := c_truchmanref01_marked) rfl, c_truchmanref01_marked]
        simp (maxSteps := 3000000) (maxDischargeDepth := 6) +contextual -implicitDefEqProofs only [amC M, ↓amD, Nat.reduceBEq, Nat.reduceAdd, env, fargs, q_truchmanref01_marked, amG, AV.cell, Nat.reduceMul, Nat.reduceLeDiff, h3, x0, x1, xl, xp, hw1, hw2, sA, sB, sC, qB, qPiece, hp_get0, hp_set0, rmkV, finR, plusR, Piece.row, cut_app, hp_take, hN1, hW1, (show ((3 : Int) == 2) = false from rfl), (show ((3 : Int) == 3) = true from rfl), hgt, hgt2, hd, hs1, List.getElem?_cons_zero, c1, c2, c3]
  | false =>
  cases c4 : s.getD (s.length - 2) 0 == 47 with
  | true =>
    cases C with
    | nil =>
      have hN1 := hN ⟨4, [], false⟩ (by simp at * <;> omega)
      have hW1 := hW ⟨4, [], false⟩ (by simp at * <;> omega)
      simp only [Piece.row] at hW1
      rw [run_c M hS.truchmanref01_marked rfl (c := c_truchmanref01_marked) rfl, c_truchmanref01_marked]
      simp (maxSteps := 3000000) (maxDischargeDepth := 6) +contextual -implicitDefEqProofs only [amC M, ↓amD, Nat.reduceBEq, Nat.reduceAdd, env, fargs, q_truchmanref01_marked, amG, AV.cell, Nat.reduceMul, Nat.reduceLeDiff, h3, x0, x1, xl, xp, hw1, hw2, sA, sB, sC, qB, qPiece, hp_get0, hp_set0, rmkV, finR, plusR, Piece.row, cut_app, hp_take, hN1, hW1, (show ((4 : Int) == 2) = false from rfl), (show ((4 : Int) == 3) = false from rfl), List.length_nil, (show decide ((0 : Int) < ((0 : Nat) : Int)) = false from rfl), c1, c2, c3, c4]
    | cons d u =>
      have hgt : decide ((0 : Int) < (((d :: u).length : Nat) : Int)) = true := decide_eq_true (by simp <;> omega)
      have hgt2 : decide ((0 : Int) < ((u.length + 1 : Nat) : Int)) = true := hgt
      have hN1 := hN ⟨4, d :: u, false⟩ (by simp at * <;> omega)
      have hW1 := hW ⟨4, d :: u, false⟩ (by simp at * <;> omega)
      simp only [Piece.row] at hW1
      rw [run_c M hS.truchmanref01_marked rfl (c := c_truchmanref01_marked) rfl, c_truchmanref01_marked]
      simp (maxSteps := 3000000) (maxDischargeDepth := 6) +contextual -implicitDefEqProofs only [amC M, ↓amD, Nat.reduceBEq, Nat.reduceAdd, env, fargs, q_truchmanref01_marked, amG, AV.cell, Nat.reduceMul, Nat.reduceLeDiff, h3, x0, x1, xl, xp, hw1, hw2, sA, sB, sC, qB, qPiece, hp_get0, hp_set0, rmkV, finR, plusR, Piece.row, cut_app, hp_take, hN1, hW1, (show ((4 : Int) == 2) = false from rfl), (show ((4 : Int) == 3) = false from rfl), hgt, hgt2, List.getElem?_cons_zero, c1, c2, c3, c4]
  | false =>
    cases A with
    | nil =>
      have hN1 := hN ⟨2, [], false⟩ (by simp at * <;> omega)
      have hW1 := hW ⟨2, [], false⟩ (by simp at * <;> omega)
      simp only [Piece.row] at hW1
      rw [run_c M hS.truchmanref01_marked rfl (c := c_truchmanref01_marked) rfl, c_truchmanref01_marked]
      simp (maxSteps := 3000000) (maxDischargeDepth := 6) +contextual -implicitDefEqProofs only [amC M, ↓amD, Nat.reduceBEq, Nat.reduceAdd, env, fargs, q_truchmanref01_marked, amG, AV.cell, Nat.reduceMul, Nat.reduceLeDiff, h3, x0, x1, xl, xp, hw1, hw2, sA, sB, sC, qB, qPiece, hp_get0, hp_set0, rmkV, finR, plusR, Piece.row, cut_app, hp_take, hN1, hW1, (show ((2 : Int) == 2) = true from rfl), (show ((2 : Int) == 3) = false from rfl), List.length_nil, (show decide ((0 : Int) < ((0 : Nat) : Int)) = false from rfl), c1, c2, c3, c4]
    | cons d u =>
      have hgt : decide ((0 : Int) < (((d :: u).length : Nat) : Int)) = true := decide_eq_true (by simp <;> omega)
      have hgt2 : decide ((0 : Int) < ((u.length + 1 : Nat) : Int)) = true := hgt
      have hs1 := sls_from (s := d :: u) (k := .i64) (i := 1) (by simp)
      rw [show ((1 : Nat) : Int) = 1 from rfl, List.drop_succ_cons, List.drop_zero] at hs1
      cases hd : d == 43 with
      | true =>
        have hN1 := hN ⟨2, u, true⟩ (by simp at * <;> omega)
        have hW1 := hW ⟨2, u, true⟩ (by simp at * <;> omega)
        simp only [Piece.row] at hW1
        rw [run_c M hS.truchmanref01_marked rfl (c := c_truchmanref01_marked) rfl, c_truchmanref01_marked]
        simp (maxSteps := 3000000) (maxDischargeDepth := 6) +contextual -implicitDefEqProofs only [amC M, ↓amD, Nat.reduceBEq, Nat.reduceAdd, env, fargs, q_truchmanref01_marked, amG, AV.cell, Nat.reduceMul, Nat.reduceLeDiff, h3, x0, x1, xl, xp, hw1, hw2, sA, sB, sC, qB, qPiece, hp_get0, hp_set0, rmkV, finR, plusR, Piece.row, cut_app, hp_take, hN1, hW1, (show ((2 : Int) == 2) = true from rfl), (show ((2 : Int) == 3) = false from rfl), hgt, hgt2, hd, hs1, List.getElem?_cons_zero, c1, c2, c3, c4]
      | false =>
        have hN1 := hN ⟨2, d :: u, false⟩ (by simp at * <;> omega)
        have hW1 := hW ⟨2, d :: u, false⟩ (by simp at * <;> omega)
        simp only [Piece.row] at hW1
        rw [run_c M hS.truchmanref01_marked rfl (c := c_truchmanref01_marked) rfl, c_truchmanref01_marked]
        simp (maxSteps := 3000000) (maxDischargeDepth := 6) +contextual -implicitDefEqProofs only [amC M, ↓amD, Nat.reduceBEq, Nat.reduceAdd, env, fargs, q_truchmanref01_marked, amG, AV.cell, Nat.reduceMul, Nat.reduceLeDiff, h3, x0, x1, xl, xp, hw1, hw2, sA, sB, sC, qB, qPiece, hp_get0, hp_set0, rmkV, finR, plusR, Piece.row, cut_app, hp_take, hN1, hW1, (show ((2 : Int) == 2) = true from rfl), (show ((2 : Int) == 3) = false from rfl), hgt, hgt2, hd, hs1, List.getElem?_cons_zero, c1, c2, c3, c4]
end Go.Am
end

section
set_option linter.unusedSimpArgs false
set_option linter.unusedVariables false
set_option maxHeartbeats 1000000
set_option maxRecDepth 100000
namespace Go.Am
open Go.RowKit

/-! Tags and holes: both ways to read them -/
structure TagV (p : Piece) (n : Nat) (s : Str) : Prop where
  name : nameD p.text = true
  kind : p.kind = 2 ∨ p.kind = 3 ∨ (p.kind = 4 ∧ p.car = false) ∨ (p.kind = 5 ∧ p.car = false)
  wr : wrF p = s.take n
  len : n = (wrF p).length
theorem nameD_in {s : Str} (h : nameD s = true) : s.all inN = true ∧ ∃ d u, s = d :: u ∧ 97 ≤ d.toNat ∧ d.toNat ≤ 122 := by
  cases s with
  | nil => cases h
  | cons d u =>
    simp only [nameD, Bool.and_eq_true, decide_eq_true_eq] at h
    exact ⟨h.2, d, u, rfl, by omega, by omega⟩
theorem inN_not {c : UInt8} (h : inN c = true) : isEnd c = false ∧ (c == 47) = false ∧ (c == 43) = false ∧ (c == 62) = false ∧ (c == 125) = false := by
  have key : ∀ n : Fin 256, inN (UInt8.ofNat n.val) = true → isEnd (UInt8.ofNat n.val) = false ∧ (UInt8.ofNat n.val == 47) = false ∧ (UInt8.ofNat n.val == 43) = false ∧ (UInt8.ofNat n.val == 62) = false ∧ (UInt8.ofNat n.val == 125) = false := by decide
  have := key ⟨c.toNat, c.toNat_lt⟩
  simp only [UInt8.ofNat_toNat] at this
  exact this h
theorem idxI_at {p : UInt8 → Bool} : ∀ (b : Str) (e : UInt8) (rest : Str) (i : Nat), (∀ x ∈ b, p x = false) → p e = true → idxI p i (b ++ e :: rest) = ((i + b.length : Nat) : Int)
  | [], e, rest, i, _, he => by simp [idxI, he, sel]
  | x :: b, e, rest, i, hb, he => by
    have h1 := hb x (List.mem_cons_self ..)
    rw [List.cons_append, idxI, h1, sel_false, idxI_at b e rest (i + 1) (fun y hy => hb y (List.mem_cons_of_mem _ hy)) he]
    simp; omega
theorem mk_of {c e : UInt8} {b rest : Str} {p : Piece} (he : isEnd e = true) (hb : ∀ x ∈ b, isEnd x = false) (hp : mkB c b = p) (hn : nameD p.text = true) (hw : wrF p = c :: (b ++ [e])) :
    mkO (c :: (b ++ e :: rest)) = some (p, b.length + 2) := by
  have h1 := idxI_at b e rest 0 hb he
  rw [Nat.zero_add] at h1
  have h2 : (b ++ e :: rest).take b.length = b := List.take_left' rfl
  have h3 : (b ++ e :: rest).take (b.length + 1) = b ++ [e] := by
    rw [show b ++ e :: rest = (b ++ [e]) ++ rest by simp]; exact List.take_left' (by simp)
  rw [mkO, h1, show decide (((b.length : Nat) : Int) < 0) = false from decide_eq_false (by omega), sel_false, mkT, show ((b.length : Nat) : Int).toNat = b.length from rfl, h2, h3, hp, hn, hw]
  simp [sel]
theorem hasPre_no {d : UInt8} {u p : Str} {q : UInt8} (h : (d == q) = false) : hasPre (d :: u) (q :: p) = false := by
  unfold hasPre
  rw [Bool.and_eq_false_iff]
  right
  rw [List.length_cons, List.take_succ_cons, beq_eq_false_iff_ne]
  intro e
  simp at e h
  exact h e.1
theorem hasPre_one (d : UInt8) (u : Str) : hasPre (d :: u) [d] = true := by simp [hasPre]
theorem hasSuf_last (b : Str) : hasSuf (b ++ [47]) [47] = true := by simp [hasSuf]
theorem hasSuf_no {b : Str} {x : UInt8} (h : (x == 47) = false) : hasSuf (b ++ [x]) [47] = false := by
  simp [hasSuf] at h ⊢
  exact h
/-- A text's last byte. -/
theorem last_of {b : Str} (h : b ≠ []) : ∃ a x, b = a ++ [x] := ⟨b.dropLast, b.getLast h, (List.dropLast_concat_getLast h).symm⟩

theorem mkO_V {s : Str} {p : Piece} {n : Nat} (h : mkO s = some (p, n)) : TagV p n s := by
  cases s with
  | nil => cases h
  | cons c t =>
    rw [mkO] at h
    cases h1 : decide (idxI isEnd 0 t < 0) with
    | true => rw [h1] at h; cases h
    | false =>
      rw [h1, sel_false] at h
      rcases idxI_shift (p := isEnd) t 0 with ⟨h2, _⟩ | ⟨j, hj, h2, _, _, _⟩
      · rw [h2] at h1; cases h1
      · rw [h2, show ((0 + j : Nat) : Int).toNat = j by simp] at h
        cases h3 : mkT c t j with
        | false => rw [h3] at h; cases h
        | true =>
          rw [h3] at h
          simp only [sel, Option.some.injEq, Prod.mk.injEq] at h
          obtain ⟨rfl, rfl⟩ := h
          simp only [mkT, Bool.and_eq_true, beq_iff_eq] at h3
          refine ⟨h3.1, ?_, by rw [h3.2]; simp, by rw [h3.2]; simp; omega⟩
          unfold mkB
          cases c == 123 <;> cases hasPre (t.take j) [47, 43] <;> cases hasPre (t.take j) [47] <;> cases hasPre (t.take j) [43] <;> cases hasSuf (t.take j) [47] <;> simp [sel]
theorem V_mkO {s : Str} {p : Piece} {n : Nat} (h : TagV p n s) : mkO s = some (p, n) := by
  obtain ⟨hn, hk, hw, hl⟩ := h
  obtain ⟨hall, d, u, ht, hd1, hd2⟩ := nameD_in hn
  have hs : s = wrF p ++ s.drop n := by rw [hw, List.take_append_drop]
  generalize s.drop n = rest at hs
  have hin : ∀ x ∈ p.text, inN x = true := by simpa using hall
  have hne : ∀ x ∈ p.text, isEnd x = false := fun x hx => (inN_not (hin x hx)).1
  have hd := inN_not (hin d (by rw [ht]; exact List.mem_cons_self ..))
  obtain ⟨k, tx, ca⟩ := p
  dsimp only at *
  rcases hk with rfl | rfl | ⟨rfl, rfl⟩ | ⟨rfl, rfl⟩
  · cases ca with
    | false =>
      have e : wrF ⟨2, tx, false⟩ = 60 :: (tx ++ [62]) := by simp [wrF, plusS, sel]
      have hm : mkB 60 tx = ⟨2, tx, false⟩ := by
        obtain ⟨a, x, hax⟩ := last_of (b := tx) (by rw [ht]; simp)
        have hx := inN_not (hin x (by rw [hax]; simp))
        have q1 : hasPre tx [47, 43] = false := by rw [ht]; exact hasPre_no hd.2.1
        have q2 : hasPre tx [47] = false := by rw [ht]; exact hasPre_no hd.2.1
        have q3 : hasPre tx [43] = false := by rw [ht]; exact hasPre_no hd.2.2.1
        have q4 : hasSuf tx [47] = false := by rw [hax]; exact hasSuf_no hx.2.1
        rw [mkB, q1, q2, q3, q4]; rfl
      have := mk_of (c := 60) (e := 62) (rest := rest) rfl hne hm hn e
      rw [hs, e, hl, e]
      simpa using this
    | true =>
      have e : wrF ⟨2, tx, true⟩ = 60 :: ((43 :: tx) ++ [62]) := by simp [wrF, plusS, sel]
      have hm : mkB 60 (43 :: tx) = ⟨2, tx, true⟩ := by
        rw [mkB, hasPre_no (d := 43) (q := 47) rfl, hasPre_no (d := 43) (q := 47) rfl, hasPre_one]; rfl
      have := mk_of (c := 60) (e := 62) (b := 43 :: tx) (rest := rest) rfl (by intro x hx; rcases List.mem_cons.1 hx with rfl | hx; rfl; exact hne x hx) hm hn e
      rw [hs, e, hl, e]
      simpa using this
  · cases ca with
    | false =>
      have e : wrF ⟨3, tx, false⟩ = 60 :: ((47 :: tx) ++ [62]) := by simp [wrF, plusS, sel]
      have hm : mkB 60 (47 :: tx) = ⟨3, tx, false⟩ := by
        have q1 : hasPre (47 :: tx) [47, 43] = false := by
          rw [ht]; unfold hasPre
          have := hd.2.2.1
          simp at this ⊢
          exact this
        rw [mkB, q1, hasPre_one]; rfl
      have := mk_of (c := 60) (e := 62) (b := 47 :: tx) (rest := rest) rfl (by intro x hx; rcases List.mem_cons.1 hx with rfl | hx; rfl; exact hne x hx) hm hn e
      rw [hs, e, hl, e]
      simpa using this
    | true =>
      have e : wrF ⟨3, tx, true⟩ = 60 :: ((47 :: 43 :: tx) ++ [62]) := by simp [wrF, plusS, sel]
      have hm : mkB 60 (47 :: 43 :: tx) = ⟨3, tx, true⟩ := by
        have q1 : hasPre (47 :: 43 :: tx) [47, 43] = true := by simp [hasPre]
        rw [mkB, q1]; rfl
      have := mk_of (c := 60) (e := 62) (b := 47 :: 43 :: tx) (rest := rest) rfl (by intro x hx; rcases List.mem_cons.1 hx with rfl | hx; rfl; rcases List.mem_cons.1 hx with rfl | hx; rfl; exact hne x hx) hm hn e
      rw [hs, e, hl, e]
      simpa using this
  · have e : wrF ⟨4, tx, false⟩ = 60 :: ((tx ++ [47]) ++ [62]) := by simp [wrF, sel]
    have hm : mkB 60 (tx ++ [47]) = ⟨4, tx, false⟩ := by
      have q1 : hasPre (tx ++ [47]) [47, 43] = false := by rw [ht]; exact hasPre_no hd.2.1
      have q2 : hasPre (tx ++ [47]) [47] = false := by rw [ht]; exact hasPre_no hd.2.1
      have q3 : hasPre (tx ++ [47]) [43] = false := by rw [ht]; exact hasPre_no hd.2.2.1
      rw [mkB, q1, q2, q3, hasSuf_last]
      simp [sel]
    have := mk_of (c := 60) (e := 62) (b := tx ++ [47]) (rest := rest) rfl (by intro x hx; rcases List.mem_append.1 hx with hx | hx; exact hne x hx; simp at hx; subst hx; rfl) hm hn e
    rw [hs, e, hl, e]
    simpa using this
  · have e : wrF ⟨5, tx, false⟩ = 123 :: (tx ++ [125]) := by simp [wrF, sel]
    have hm : mkB 123 tx = ⟨5, tx, false⟩ := rfl
    have := mk_of (c := 123) (e := 125) (rest := rest) rfl hne hm hn e
    rw [hs, e, hl, e]
    simpa using this

/-! The specification's way -/
def endC (c : UInt8) : UInt8 := if (c == 123) = true then 125 else 62
def refO (s : Str) : Option (Piece × Nat) := match s with
  | [] => none
  | c :: t => sel (decide (idxI (fun d => d == endC c) 0 (c :: t) < 0)) none (sel (rmk ((c :: t).take ((idxI (fun d => d == endC c) 0 (c :: t)).toNat + 1))).2 (some ((rmk ((c :: t).take ((idxI (fun d => d == endC c) 0 (c :: t)).toNat + 1))).1, (idxI (fun d => d == endC c) 0 (c :: t)).toNat + 1)) none)
theorem plusR_kind (x : Piece) (h : x.car = false) : (plusR x).kind = x.kind ∧ ((plusR x).car = true → x.kind = 2 ∨ x.kind = 3) := by
  unfold plusR
  cases x.text with
  | nil => exact ⟨rfl, fun h2 => by rw [h] at h2; cases h2⟩
  | cons d u =>
    dsimp only
    cases hb : (d == 43) && ((x.kind == 2) || (x.kind == 3)) with
    | false => exact ⟨rfl, fun h2 => by rw [sel_false, h] at h2; cases h2⟩
    | true =>
      refine ⟨rfl, fun _ => ?_⟩
      simp only [Bool.and_eq_true, Bool.or_eq_true, beq_iff_eq] at hb
      exact hb.2
theorem rmk_V {s : Str} (h : (rmk s).2 = true) : TagV (rmk s).1 s.length s := by
  have key : ∀ x : Piece, x.car = false → (x.kind = 2 ∨ x.kind = 3 ∨ x.kind = 4 ∨ x.kind = 5) → (finR s x).2 = true → TagV (finR s x).1 s.length s := fun x hx hk h2 => by
    simp only [finR, Bool.and_eq_true, beq_iff_eq] at h2 ⊢
    obtain ⟨k1, k2⟩ := plusR_kind x hx
    refine ⟨h2.1, ?_, by rw [h2.2, List.take_length], by rw [h2.2]⟩
    rw [k1]
    rcases hk with hk | hk | hk | hk
    · exact .inl hk
    · exact .inr (.inl hk)
    · refine .inr (.inr (.inl ⟨hk, ?_⟩))
      cases hc : (plusR x).car with
      | false => rfl
      | true => have := k2 hc; omega
    · refine .inr (.inr (.inr ⟨hk, ?_⟩))
      cases hc : (plusR x).car with
      | false => rfl
      | true => have := k2 hc; omega
  unfold rmk at h ⊢
  cases h1 : decide ((s.length : Int) < 3) with
  | true => rw [h1] at h; cases h
  | false =>
  rw [h1, sel_false] at h
  simp only [sel_false]
  cases h2 : (s.getD 0 0 == 123) && (s.getD (s.length - 1) 0 == 125) with
  | true => rw [h2, sel_true] at h; exact key _ rfl (by simp) h
  | false =>
  rw [h2, sel_false] at h
  simp only [sel_false]
  cases h3 : !(s.getD 0 0 == 60) || !(s.getD (s.length - 1) 0 == 62) with
  | true => rw [h3] at h; cases h
  | false =>
  rw [h3, sel_false] at h
  simp only [sel_false]
  cases h4 : s.getD 1 0 == 47 with
  | true => rw [h4, sel_true] at h; exact key _ rfl (by simp) h
  | false =>
  rw [h4, sel_false] at h
  simp only [sel_false]
  cases h5 : s.getD (s.length - 2) 0 == 47 with
  | true => rw [h5, sel_true] at h; exact key _ rfl (by simp) h
  | false => rw [h5, sel_false] at h; exact key _ rfl (by simp) h
theorem getD_app {a : Str} {x : UInt8} {b : Str} : (a ++ x :: b).getD a.length 0 = x := by simp [List.getD]
theorem plusR_no {x : Piece} {d : UInt8} {u : Str} (h : x.text = d :: u) (hd : (d == 43) = false) : plusR x = x := by
  unfold plusR
  rw [h]
  simp [hd, sel]
/-- The written form of a tag or hole is read as it. -/
theorem rmk_wr {p : Piece} (hn : nameD p.text = true) (hk : p.kind = 2 ∨ p.kind = 3 ∨ (p.kind = 4 ∧ p.car = false) ∨ (p.kind = 5 ∧ p.car = false)) : rmk (wrF p) = (p, true) := by
  obtain ⟨hall, d, u, ht, hd1, hd2⟩ := nameD_in hn
  have hin : ∀ x ∈ p.text, inN x = true := by simpa using hall
  have hd := inN_not (hin d (by rw [ht]; exact List.mem_cons_self ..))
  obtain ⟨a, x, hax⟩ := last_of (b := p.text) (by rw [ht]; simp)
  have hx := inN_not (hin x (by rw [hax]; simp))
  obtain ⟨k, tx, ca⟩ := p
  dsimp only at *
  have hlen : 1 ≤ tx.length := by rw [ht]; simp
  have fin : ∀ (s : Str) (y q : Piece), plusR y = q → nameD q.text = true → wrF q = s → finR s y = (q, true) := fun s y q h1 h2 h3 => by
    simp [finR, h1, h2, h3]
  have pn : ∀ k, plusR ⟨k, tx, false⟩ = ⟨k, tx, false⟩ := fun k => plusR_no ht hd.2.2.1
  rcases hk with rfl | rfl | ⟨rfl, rfl⟩ | ⟨rfl, rfl⟩
  · cases ca with
    | false =>
      have e : wrF ⟨2, tx, false⟩ = 60 :: (tx ++ [62]) := by simp [wrF, plusS, sel]
      have e0 : (60 :: (tx ++ [62]) : Str).length = tx.length + 2 := by simp
      have c1 : decide (((60 :: (tx ++ [62]) : Str).length : Int) < 3) = false := decide_eq_false (by rw [e0]; omega)
      have c3 : (60 :: (tx ++ [62]) : Str).getD ((60 :: (tx ++ [62]) : Str).length - 1) 0 = 62 := by rw [e0]; exact getD_app (a := 60 :: tx)
      have c4 : (60 :: (tx ++ [62]) : Str).getD 1 0 = d := by rw [ht]; rfl
      have c5 : (60 :: (tx ++ [62]) : Str).getD ((60 :: (tx ++ [62]) : Str).length - 2) 0 = x := by
        rw [e0, hax]; simp [List.getD]
      have c6 : ((60 :: (tx ++ [62]) : Str).drop 1).take ((60 :: (tx ++ [62]) : Str).length - 2) = tx := by rw [e0]; simp
      rw [e, rmk, c1, c3, c4, c5, c6, hd.2.1, hx.2.1]
      exact fin _ _ _ (pn 2) hn e
    | true =>
      have e : wrF ⟨2, tx, true⟩ = 60 :: 43 :: (tx ++ [62]) := by simp [wrF, plusS, sel]
      have e0 : (60 :: 43 :: (tx ++ [62]) : Str).length = tx.length + 3 := by simp
      have c1 : decide (((60 :: 43 :: (tx ++ [62]) : Str).length : Int) < 3) = false := decide_eq_false (by rw [e0]; omega)
      have c3 : (60 :: 43 :: (tx ++ [62]) : Str).getD ((60 :: 43 :: (tx ++ [62]) : Str).length - 1) 0 = 62 := by rw [e0]; exact getD_app (a := 60 :: 43 :: tx)
      have c5 : (60 :: 43 :: (tx ++ [62]) : Str).getD ((60 :: 43 :: (tx ++ [62]) : Str).length - 2) 0 = x := by
        rw [e0, hax]; simp [List.getD]
      have c6 : ((60 :: 43 :: (tx ++ [62]) : Str).drop 1).take ((60 :: 43 :: (tx ++ [62]) : Str).length - 2) = 43 :: tx := by rw [e0]; simp
      have hp : plusR ⟨2, 43 :: tx, false⟩ = ⟨2, tx, true⟩ := rfl
      rw [e, rmk, c1, c3, c5, c6, hx.2.1]
      exact fin _ _ _ hp hn e
  · cases ca with
    | false =>
      have e : wrF ⟨3, tx, false⟩ = 60 :: 47 :: (tx ++ [62]) := by simp [wrF, plusS, sel]
      have e0 : (60 :: 47 :: (tx ++ [62]) : Str).length = tx.length + 3 := by simp
      have c1 : decide (((60 :: 47 :: (tx ++ [62]) : Str).length : Int) < 3) = false := decide_eq_false (by rw [e0]; omega)
      have c3 : (60 :: 47 :: (tx ++ [62]) : Str).getD ((60 :: 47 :: (tx ++ [62]) : Str).length - 1) 0 = 62 := by rw [e0]; exact getD_app (a := 60 :: 47 :: tx)
      have c6 : ((60 :: 47 :: (tx ++ [62]) : Str).drop 2).take ((60 :: 47 :: (tx ++ [62]) : Str).length - 3) = tx := by rw [e0]; simp
      rw [e, rmk, c1, c3, c6]
      exact fin _ _ _ (pn 3) hn e
    | true =>
      have e : wrF ⟨3, tx, true⟩ = 60 :: 47 :: 43 :: (tx ++ [62]) := by simp [wrF, plusS, sel]
      have e0 : (60 :: 47 :: 43 :: (tx ++ [62]) : Str).length = tx.length + 4 := by simp
      have c1 : decide (((60 :: 47 :: 43 :: (tx ++ [62]) : Str).length : Int) < 3) = false := decide_eq_false (by rw [e0]; omega)
      have c3 : (60 :: 47 :: 43 :: (tx ++ [62]) : Str).getD ((60 :: 47 :: 43 :: (tx ++ [62]) : Str).length - 1) 0 = 62 := by rw [e0]; exact getD_app (a := 60 :: 47 :: 43 :: tx)
      have c6 : ((60 :: 47 :: 43 :: (tx ++ [62]) : Str).drop 2).take ((60 :: 47 :: 43 :: (tx ++ [62]) : Str).length - 3) = 43 :: tx := by rw [e0]; simp
      have hp : plusR ⟨3, 43 :: tx, false⟩ = ⟨3, tx, true⟩ := rfl
      rw [e, rmk, c1, c3, c6]
      exact fin _ _ _ hp hn e
  · have e : wrF ⟨4, tx, false⟩ = 60 :: (tx ++ [47, 62]) := by simp [wrF, sel]
    have e0 : (60 :: (tx ++ [47, 62]) : Str).length = tx.length + 3 := by simp
    have c1 : decide (((60 :: (tx ++ [47, 62]) : Str).length : Int) < 3) = false := decide_eq_false (by rw [e0]; omega)
    have c3 : (60 :: (tx ++ [47, 62]) : Str).getD ((60 :: (tx ++ [47, 62]) : Str).length - 1) 0 = 62 := by rw [e0]; simp [List.getD]
    have c4 : (60 :: (tx ++ [47, 62]) : Str).getD 1 0 = d := by rw [ht]; rfl
    have c5 : (60 :: (tx ++ [47, 62]) : Str).getD ((60 :: (tx ++ [47, 62]) : Str).length - 2) 0 = 47 := by rw [e0]; exact getD_app (a := 60 :: tx)
    have c6 : ((60 :: (tx ++ [47, 62]) : Str).drop 1).take ((60 :: (tx ++ [47, 62]) : Str).length - 3) = tx := by rw [e0]; simp
    rw [e, rmk, c1, c3, c4, c5, c6, hd.2.1]
    exact fin _ _ _ (pn 4) hn e
  · have e : wrF ⟨5, tx, false⟩ = 123 :: (tx ++ [125]) := by simp [wrF, sel]
    have e0 : (123 :: (tx ++ [125]) : Str).length = tx.length + 2 := by simp
    have c1 : decide (((123 :: (tx ++ [125]) : Str).length : Int) < 3) = false := decide_eq_false (by rw [e0]; omega)
    have c3 : (123 :: (tx ++ [125]) : Str).getD ((123 :: (tx ++ [125]) : Str).length - 1) 0 = 125 := by rw [e0]; exact getD_app (a := 123 :: tx)
    have c6 : ((123 :: (tx ++ [125]) : Str).drop 1).take ((123 :: (tx ++ [125]) : Str).length - 2) = tx := by rw [e0]; simp
    rw [e, rmk, c1, c3, c6]
    exact fin _ _ _ (pn 5) hn e
theorem wr_shape {p : Piece} (hn : nameD p.text = true) (hk : p.kind = 2 ∨ p.kind = 3 ∨ (p.kind = 4 ∧ p.car = false) ∨ (p.kind = 5 ∧ p.car = false)) :
    ∃ (c : UInt8) (w : Str), wrF p = c :: (w ++ [endC c]) ∧ ∀ x ∈ c :: w, (x == endC c) = false := by
  obtain ⟨hall, d, u, ht, hd1, hd2⟩ := nameD_in hn
  have hin : ∀ x ∈ p.text, inN x = true := by simpa using hall
  have h62 : ∀ x ∈ p.text, (x == 62) = false := fun x hx => (inN_not (hin x hx)).2.2.2.1
  have h125 : ∀ x ∈ p.text, (x == 125) = false := fun x hx => (inN_not (hin x hx)).2.2.2.2
  obtain ⟨k, tx, ca⟩ := p
  dsimp only at *
  rcases hk with rfl | rfl | ⟨rfl, rfl⟩ | ⟨rfl, rfl⟩
  · refine ⟨60, plusS ⟨2, tx, ca⟩ ++ tx, by cases ca <;> simp [wrF, plusS, sel, endC], fun x hx => ?_⟩
    rcases List.mem_cons.1 hx with rfl | hx
    · rfl
    rcases List.mem_append.1 hx with hx | hx
    · cases ca
      · cases hx
      · simp [plusS, sel] at hx; subst hx; rfl
    · exact h62 x hx
  · refine ⟨60, 47 :: (plusS ⟨3, tx, ca⟩ ++ tx), by cases ca <;> simp [wrF, plusS, sel, endC], fun x hx => ?_⟩
    rcases List.mem_cons.1 hx with rfl | hx
    · rfl
    rcases List.mem_cons.1 hx with rfl | hx
    · rfl
    rcases List.mem_append.1 hx with hx | hx
    · cases ca
      · cases hx
      · simp [plusS, sel] at hx; subst hx; rfl
    · exact h62 x hx
  · refine ⟨60, tx ++ [47], by simp [wrF, sel, endC], fun x hx => ?_⟩
    rcases List.mem_cons.1 hx with rfl | hx
    · rfl
    rcases List.mem_append.1 hx with hx | hx
    · exact h62 x hx
    · simp at hx; subst hx; rfl
  · refine ⟨123, tx, by simp [wrF, sel, endC], fun x hx => ?_⟩
    rcases List.mem_cons.1 hx with rfl | hx
    · rfl
    · exact h125 x hx
theorem idxI_lt {q : UInt8 → Bool} : ∀ (l : Str) (i : Nat), idxI q i l = -1 ∨ ∃ j, j < l.length ∧ idxI q i l = ((i + j : Nat) : Int) := fun l i => by
  rcases idxI_shift (p := q) l i with ⟨h, _⟩ | ⟨j, hj, h, _⟩
  · exact .inl h
  · exact .inr ⟨j, hj, h⟩
/-- Both ways read the same. -/
theorem ref_mk (s : Str) : refO s = mkO s := by
  cases s with
  | nil => rfl
  | cons c t =>
  have step : ∀ p n, mkO (c :: t) = some (p, n) → refO (c :: t) = some (p, n) := fun p n h => by
    have hV := mkO_V h
    obtain ⟨c', w, hw, hne⟩ := wr_shape hV.name hV.kind
    have hs : c :: t = wrF p ++ (c :: t).drop n := by rw [hV.wr, List.take_append_drop]
    have hl := hV.len
    have hrm := rmk_wr hV.name hV.kind
    have hwr := hV.wr
    generalize (c :: t).drop n = rest at hs
    have hcc : c = c' := by
      rw [hw] at hs
      simp at hs
      exact hs.1
    subst hcc
    have hi : idxI (fun d => d == endC c) 0 (c :: t) = (((c :: w).length : Nat) : Int) := by
      have h1 := idxI_at (p := fun d => d == endC c) (c :: w) (endC c) rest 0 hne (by simp)
      rw [Nat.zero_add] at h1
      rw [← h1, hs, hw]
      simp
    have hlen : n = (c :: w).length + 1 := by rw [hl, hw]; simp
    unfold refO
    dsimp only
    rw [hi, show decide ((((c :: w).length : Nat) : Int) < 0) = false from decide_eq_false (by omega), sel_false, show (((c :: w).length : Nat) : Int).toNat = (c :: w).length from rfl, ← hlen, ← hwr, hrm]
    rfl
  cases hr : refO (c :: t) with
  | none =>
    cases hm : mkO (c :: t) with
    | none => rfl
    | some q => obtain ⟨p, n⟩ := q; rw [step p n hm] at hr; cases hr
  | some q =>
    obtain ⟨p, n⟩ := q
    unfold refO at hr
    dsimp only at hr
    rcases idxI_lt (q := fun d => d == endC c) (c :: t) 0 with h1 | ⟨j, hj, h1⟩
    · rw [h1] at hr; cases hr
    · rw [h1, Nat.zero_add, show decide (((j : Nat) : Int) < 0) = false from decide_eq_false (by omega), sel_false, show ((j : Nat) : Int).toNat = j from rfl] at hr
      cases h2 : (rmk ((c :: t).take (j + 1))).2 with
      | false => rw [h2] at hr; cases hr
      | true =>
        rw [h2, sel_true] at hr
        simp only [Option.some.injEq, Prod.mk.injEq] at hr
        obtain ⟨rfl, rfl⟩ := hr
        have hV := rmk_V h2
        have hlen : ((c :: t).take (j + 1)).length = j + 1 := by rw [List.length_take]; omega
        refine (V_mkO ⟨hV.name, hV.kind, ?_, ?_⟩).symm
        · rw [hV.wr, List.take_length]
        · rw [← hV.len, hlen]
end Go.Am
end

section
set_option linter.unusedSimpArgs false
set_option linter.unusedVariables false
set_option maxRecDepth 100000
set_option maxHeartbeats 4000000
namespace Go.Am
open Go.RowKit
attribute [local congr] dsel_congr sel_c1 slc_cong gsel_congr go_congr aft_congr aftD_congr condR_congr backR_congr inR_congr at2_congr
variable {E : REnv} (M : Mach cdec E)

/-! Slices that grow in place -/
def TokV (N : Nat) (e : TypeId) (sz : Nat) (G : List AObj) (v : AV) (rows : List (List AV)) : Prop :=
  (rows = [] ∧ v = .slice .nil sz []) ∨ ∃ t, N ≤ t ∧ v = .slice (.own t) sz rows ∧ G[t]? = some (.tok (rows.length * sz) e)
/-- Nothing but one object and tokens of a type are turned, and these behind a place. -/
def TurnT (N b : Nat) (e : TypeId) (G G' : List AObj) : Prop :=
  G.length ≤ G'.length ∧ (∀ i, i < N → i ≠ b → G'[i]? = G[i]?) ∧ ∀ i, i < G.length → i ≠ b → (∀ n, G[i]? ≠ some (.tok n e)) → G'[i]? = G[i]?
theorem TurnT.refl (N b : Nat) (e : TypeId) (G : List AObj) : TurnT N b e G G := ⟨Nat.le_refl _, fun _ _ _ => rfl, fun _ _ _ _ => rfl⟩
theorem TokV.cell {N : Nat} {e : TypeId} {sz : Nat} {G : List AObj} {v : AV} {rows : List (List AV)} (h : TokV N e sz G v rows) : v.cell = true ∧ acells v = some [v] := by
  rcases h with ⟨_, rfl⟩ | ⟨t, _, rfl, _⟩ <;> exact ⟨rfl, rfl⟩
theorem TokV.len {N : Nat} {e : TypeId} {sz : Nat} {G : List AObj} {v : AV} {rows : List (List AV)} (h : TokV N e sz G v rows) (H : List AObj) : rlen H .sl v = some (.int .i64 (rows.length : Int)) := by
  rcases h with ⟨rfl, rfl⟩ | ⟨t, _, rfl, _⟩ <;> rfl
theorem TokV.wk {N : Nat} {e : TypeId} {sz : Nat} {G : List AObj} {v : AV} {rows : List (List AV)} (h : TokV N e sz G v rows) (hr : RowsWk G.length rows) : Wk G.length v v := by
  rcases h with ⟨rfl, rfl⟩ | ⟨t, _, rfl, hg⟩
  · exact wk_slice trivial (rowsWk_nil _)
  · exact wk_slice (lt_get hg) hr
theorem TokV.stay {N : Nat} {e : TypeId} {sz : Nat} {G G' : List AObj} {v : AV} {rows : List (List AV)} (h : TokV N e sz G v rows) (hs : ∀ t, N ≤ t → G[t]? = some (.tok (rows.length * sz) e) → G'[t]? = G[t]?) : TokV N e sz G' v rows := by
  rcases h with ⟨h1, h2⟩ | ⟨t, ht, h1, hg⟩
  · exact .inl ⟨h1, h2⟩
  · exact .inr ⟨t, ht, h1, by rw [hs t ht hg]; exact hg⟩
/-- A row more. -/
theorem ap_tok {N : Nat} {e : TypeId} {sz bytes : Nat} {G : List AObj} {v : AV} {rows : List (List AV)} (h : TokV N e sz G v rows) (hN : N ≤ G.length) {r : List AV} (h1 : r.length = sz) (h2 : r.all AV.cell = true) (h3 : r.map AV.strip = r)
    (hl : (rows.length + 1) * bytes ≤ 140737488355328) (hl2 : rows.length + 1 ≤ 4611686018427387904) :
    ∃ v' G', rap false G e sz bytes false v (.slice .full sz [r]) = some (v', G') ∧ TokV N e sz G' v' (rows ++ [r]) ∧ G.length ≤ G'.length ∧ (∀ i, i < N → G'[i]? = G[i]?) ∧ ∀ i, i < G.length → (∀ n, G[i]? ≠ some (.tok n e)) → G'[i]? = G[i]? := by
  have hr := rowsOk_one h1 h2
  rcases h with ⟨rfl, rfl⟩ | ⟨t, ht, rfl, hg⟩
  · refine ⟨.slice (.own G.length) sz [r], G ++ [.tok (1 * sz) e], ?_, .inr ⟨G.length, hN, rfl, by rw [hp_get0]; rfl⟩, by simp, fun i hi => List.getElem?_append_left (by omega), fun i hi _ => List.getElem?_append_left hi⟩
    simp only [rap, rapp, rsrc, or_true, if_true, List.length_nil, List.length_cons, Nat.zero_add, true_or, true_and, hr, and_true, List.nil_append, List.map_cons, List.map_nil, h3]
    rw [if_pos ⟨by simpa using hl, by omega⟩]
  · refine ⟨.slice (.own t) sz (rows ++ [r]), G.set t (.tok (rows.length * sz + 1 * sz) e), ?_, .inr ⟨t, ht, rfl, ?_⟩, by simp, fun i hi => ?_, fun i hi hn => ?_⟩
    · simp only [rap, rapp, rsrc, or_true, if_true, List.length_cons, List.length_nil, Nat.zero_add, true_and, hr, and_true, hg, List.map_cons, List.map_nil, h3]
      rw [if_pos ⟨hl, by omega⟩]
    · rw [List.getElem?_set_self (lt_get hg), List.length_append, Nat.add_mul]; rfl
    · rw [List.getElem?_set_ne (by omega)]
    · rw [List.getElem?_set_ne (fun e1 => hn _ (by rw [← e1]; exact hg))]
/-- A cell is written. -/
theorem st_cell {G : List AObj} {p off : Nat} {cs : List AV} {v : AV} {T : TypeId} (hc : v.cell = true) (ho : off < cs.length) : stO 1 G p off [v] (some (.cells cs T)) = some (G.set p (.cells (cs.set off v) T)) := by
  simp only [stO]
  rw [if_pos ⟨rfl, by omega, by simp [hc]⟩]; rfl

/-! strings.Builder, wherever it lies -/
structure BldV (N b : Nat) (G : List AObj) (w : Str) : Prop where
  ex : ∃ ad bv, G[b]? = some (.cells [ad, bv] t_strings_Builder) ∧ (ad = .nilp ∨ ad = .ptr b 0) ∧ TokV N t_uint8 1 G bv (bRows w)
theorem set_self {G : List AObj} {b : Nat} {x : AObj} (h : G[b]? = some x) : G.set b x = G := by
  refine List.ext_getElem? fun i => ?_
  by_cases e : b = i
  · subst e; rw [List.getElem?_set_self (lt_get h), h]
  · rw [List.getElem?_set_ne e]
theorem run_cc (hC : BldE E) (hX : ExtE M) {G : List AObj} {N b : Nat} {ad bv : AV} {w : Str} (hg : G[b]? = some (.cells [ad, bv] t_strings_Builder)) (ha : ad = .nilp ∨ ad = .ptr b 0) (hv : TokV N t_uint8 1 G bv (bRows w)) :
    M.run f_strings_Builder_copyCheck [.ptr b 0] G = some (.ret (.tuple []), G.set b (.cells [.ptr b 0, bv] t_strings_Builder)) := by
  have l0 : ∀ x y : AV, rload none [x, y] 0 = some x := fun _ _ => rfl
  have hwb := hv.wk (bytes_wk _ w)
  rcases ha with rfl | rfl
  · have hwk : WkObj G.length (.cells [.ptr b 0, bv] t_strings_Builder) := by
      intro c hc
      simp at hc
      rcases hc with rfl | rfl
      · exact wk_ptr (lt_get hg)
      · exact hwb
    have hu : rcvu G (.ptr b 0) = some (.ptr b 0) := by simp [rcvu, hg]
    have hf : rcvf G t_strings_Builder 2 (.ptr b 0) = some (.ptr b 0) := by simp [rcvf, hg]
    have hs : stO 1 G b 0 [.ptr b 0] (some (.cells [.nilp, bv] t_strings_Builder)) = some (G.set b (.cells [.ptr b 0, bv] t_strings_Builder)) := st_cell rfl (by simp)
    have h1 := hX.same b 0
    rw [run_c M hC.strings_Builder_copyCheck rfl (c := c_strings_Builder_copyCheck) rfl, c_strings_Builder_copyCheck]
    simp (maxSteps := 3000000) (maxDischargeDepth := 6) +contextual -implicitDefEqProofs only [amC M, ↓amD, Nat.reduceBEq, Nat.reduceAdd, env, fargs, q_strings_Builder_copyCheck, amG, AV.cell, Nat.reduceMul, Nat.reduceLeDiff, rnc, qU, hg, l0, req_nilp, hu, hf, h1, hs, runit_mk, req_ptrs, cut_set0 hwk, wk_tuple]
    rw [List.take_of_length_le (by simp)]
  · rw [set_self hg]
    rw [run_c M hC.strings_Builder_copyCheck rfl (c := c_strings_Builder_copyCheck) rfl, c_strings_Builder_copyCheck]
    simp (maxSteps := 3000000) (maxDischargeDepth := 6) +contextual -implicitDefEqProofs only [amC M, ↓amD, Nat.reduceBEq, Nat.reduceAdd, env, fargs, q_strings_Builder_copyCheck, rnc, hg, l0, req_ptrnil, req_ptrs, hp_self, wk_tuple]

theorem bRows_snoc (w : Str) (c : UInt8) : bRows (w ++ [c]) = bRows w ++ [[.int .u8 (c.toNat : Int)]] := by simp [bRows]
theorem bRows_len (w : Str) : (bRows w).length = w.length := by simp [bRows]
theorem ne_tok {G : List AObj} {b : Nat} {cs : List AV} {T : TypeId} (h : G[b]? = some (.cells cs T)) (n : Nat) (e : TypeId) : G[b]? ≠ some (.tok n e) := by rw [h]; simp
theorem run_WB (hC : BldE E) (hX : ExtE M) {G : List AObj} {N b : Nat} {w : Str} (h : BldV N b G w) (hN : N ≤ G.length) (hl : w.length ≤ 1000000000) (c : UInt8) :
    ∃ G', M.run f_strings_Builder_WriteByte [.ptr b 0, .int .u8 c.toNat] G = some (.ret .nilif, G') ∧ BldV N b G' (w ++ [c]) ∧ TurnT N b t_uint8 G G' := by
  obtain ⟨ad, bv, hg, ha, hv⟩ := h.ex
  have hcc := run_cc M hC hX hg ha hv
  have hlt := lt_get hg
  have hg1 : (G.set b (.cells [.ptr b 0, bv] t_strings_Builder))[b]? = some (.cells [.ptr b 0, bv] t_strings_Builder) := List.getElem?_set_self hlt
  have hv1 : TokV N t_uint8 1 (G.set b (.cells [.ptr b 0, bv] t_strings_Builder)) bv (bRows w) := hv.stay fun t _ ht => by
    rw [List.getElem?_set_ne]; rintro rfl; rw [hg] at ht; cases ht
  obtain ⟨v', G2, a1, a2, a3, a4, a5⟩ := ap_tok (bytes := 1) hv1 (by simpa using hN) (r := [.int .u8 (c.toNat : Int)]) rfl rfl rfl (by rw [bRows_len]; omega) (by rw [bRows_len]; omega)
  have hg2 : G2[b]? = some (.cells [.ptr b 0, bv] t_strings_Builder) := by
    rw [a5 b (by simpa using hlt) (fun n => ne_tok hg1 n _)]; exact hg1
  refine ⟨G2.set b (.cells [.ptr b 0, v'] t_strings_Builder), ?_, ⟨⟨.ptr b 0, v', List.getElem?_set_self (lt_get hg2), .inr rfl, ?_⟩⟩, ⟨by simp at a3 ⊢; omega, fun i hi hne => ?_, fun i hi hne hn => ?_⟩⟩
  · have l1 : ∀ x y : AV, rload none [x, y] 1 = some y := fun _ _ => rfl
    have hst : stO 1 G2 b 1 [v'] (some (.cells [.ptr b 0, bv] t_strings_Builder)) = some (G2.set b (.cells [.ptr b 0, v'] t_strings_Builder)) := st_cell a2.cell.1 (by simp)
    have hac := a2.cell.2
    generalize G.set b (.cells [.ptr b 0, bv] t_strings_Builder) = G1 at *
    rw [run_c M hC.strings_Builder_WriteByte rfl (c := c_strings_Builder_WriteByte) rfl, c_strings_Builder_WriteByte]
    simp (maxSteps := 3000000) (maxDischargeDepth := 6) +contextual -implicitDefEqProofs only [amC M, ↓amD, Nat.reduceBEq, Nat.reduceAdd, env, fargs, q_strings_Builder_WriteByte, amG, AV.cell, Nat.reduceMul, Nat.reduceLeDiff, rnc, hcc, hg1, hg2, l1, a1, hac, hst, runit_mk]
  · rw [bRows_snoc]
    exact a2.stay fun t _ ht => by rw [List.getElem?_set_ne]; rintro rfl; rw [hg2] at ht; cases ht
  · rw [List.getElem?_set_ne (by omega), a4 i hi, List.getElem?_set_ne (by omega)]
  · rw [List.getElem?_set_ne (by omega), a5 i (by simpa using hi) (fun n => by rw [List.getElem?_set_ne (by omega)]; exact hn n), List.getElem?_set_ne (by omega)]
theorem run_bStr (hC : BldE E) {G : List AObj} {N b : Nat} {w : Str} (h : BldV N b G w) (hl : w.length ≤ 1000000000) : M.run f_strings_Builder_String [.ptr b 0] G = some (.ret (.str w), G) := by
  obtain ⟨ad, bv, hg, ha, hv⟩ := h.ex
  have l1 : ∀ x y : AV, rload none [x, y] 1 = some y := fun _ _ => rfl
  have hlen := hv.len
  rw [bRows_len] at hlen
  have hu : ∃ q, rusl bv = some q ∧ rust G t_uint8 q (.int .i64 (w.length : Int)) = some (.str w) := by
    rcases hv with ⟨h1, rfl⟩ | ⟨t, _, rfl, ht⟩
    · have : w = [] := by cases w with | nil => rfl | cons c w => cases h1
      subst this
      exact ⟨_, rfl, by simp [rust]⟩
    · refine ⟨_, usl_w t w, ?_⟩
      cases w with
      | nil => simp [bRows, rust]
      | cons c w =>
        have h1 := bRows_abytes (c :: w)
        have h2 := bRows_in (c :: w)
        simp only [bRows, List.map_cons] at h1 h2 ht ⊢
        simp only [rust, ht, h1, h2]
        rw [if_pos]
        exact ⟨trivial, trivial, by simp, by simp at hl ⊢; omega, trivial⟩
  obtain ⟨q, h1, h2⟩ := hu
  rw [run_c M hC.strings_Builder_String rfl (c := c_strings_Builder_String) rfl, c_strings_Builder_String]
  simp (maxSteps := 3000000) (maxDischargeDepth := 6) +contextual -implicitDefEqProofs only [amC M, ↓amD, Nat.reduceBEq, Nat.reduceAdd, env, fargs, q_strings_Builder_String, qU, rnc, hg, l1, hlen, h1, h2, hp_self]
theorem run_bReset (h : E.fn f_strings_Builder_Reset = some a_strings_Builder_Reset) {G : List AObj} {N b : Nat} {w : Str} (hb : BldV N b G w) : M.run f_strings_Builder_Reset [.ptr b 0] G = some (.ret (.tuple []), G.set b (.cells [.nilp, .slice .nil 1 []] t_strings_Builder)) := by
  obtain ⟨ad, bv, hg, ha, hv⟩ := hb.ex
  have hlt := lt_get hg
  have s1 : stO 1 G b 0 [.nilp] (some (.cells [ad, bv] t_strings_Builder)) = some (G.set b (.cells [.nilp, bv] t_strings_Builder)) := st_cell rfl (by simp)
  have g1 : (G.set b (.cells [.nilp, bv] t_strings_Builder))[b]? = some (.cells [.nilp, bv] t_strings_Builder) := List.getElem?_set_self hlt
  have s2 : stO 1 (G.set b (.cells [.nilp, bv] t_strings_Builder)) b 1 [.slice .nil 1 []] (some (.cells [.nilp, bv] t_strings_Builder)) = some (G.set b (.cells [.nilp, .slice .nil 1 []] t_strings_Builder)) := by
    rw [st_cell rfl (by simp), List.set_set]; rfl
  have hwk : WkObj G.length (.cells [.nilp, .slice .nil 1 []] t_strings_Builder) := by
    intro c hc
    simp at hc
    rcases hc with rfl | rfl
    · exact wk_nilp _
    · exact wk_slice trivial (rowsWk_nil _)
  rw [run_c M h rfl (c := c_strings_Builder_Reset) rfl, c_strings_Builder_Reset]
  simp (maxSteps := 3000000) (maxDischargeDepth := 6) +contextual -implicitDefEqProofs only [amC M, ↓amD, Nat.reduceBEq, Nat.reduceAdd, env, fargs, q_strings_Builder_Reset, amG, AV.cell, Nat.reduceMul, Nat.reduceLeDiff, rnc, hg, s1, g1, s2, runit_mk, List.set_set, cut_set0 hwk, wk_tuple]
  rw [List.take_of_length_le (by simp)]

/-! What was gathered is put behind the pieces -/
def PcsV (N o : Nat) (G : List AObj) (l : List Piece) : Prop := ∃ ov, G[o]? = some (.cells [ov] t_sl_api_Piece) ∧ TokV N t_api_Piece 3 G ov (l.map Piece.row)
def flushP (w : Str) : List Piece := sel (w == []) [] [⟨1, w, false⟩]
theorem PcsV.turn {N o b : Nat} {G G' : List AObj} {l : List Piece} (h : PcsV N o G l) (ht : TurnT N b t_uint8 G G') (hob : o ≠ b) (hb : ∃ cs T, G[b]? = some (.cells cs T)) (hne : t_api_Piece ≠ t_uint8) : PcsV N o G' l := by
  obtain ⟨ov, h1, h2⟩ := h
  obtain ⟨cs, T, hb⟩ := hb
  refine ⟨ov, by rw [ht.2.2 o (lt_get h1) hob (fun n => ne_tok h1 n _)]; exact h1, h2.stay fun t _ hg => ht.2.2 t (lt_get hg) ?_ ?_⟩
  · rintro rfl; rw [hb] at hg; cases hg
  · intro n h3; rw [hg] at h3; injection h3 with h3; injection h3 with _ h3; exact hne h3
theorem run_apP {N o : Nat} {G : List AObj} {ov : AV} {l : List Piece} (h1 : G[o]? = some (.cells [ov] t_sl_api_Piece)) (h2 : TokV N t_api_Piece 3 G ov (l.map Piece.row)) (hN : N ≤ G.length) (hl : l.length ≤ 1000000) (x : Piece) :
    ∃ v' G1, rap false G t_api_Piece 3 32 false ov (.slice .full 3 [x.row]) = some (v', G1) ∧ G1[o]? = some (.cells [ov] t_sl_api_Piece) ∧ stO 1 G1 o 0 [v'] (some (.cells [ov] t_sl_api_Piece)) = some (G1.set o (.cells [v'] t_sl_api_Piece)) ∧ acells v' = some [v'] ∧
      PcsV N o (G1.set o (.cells [v'] t_sl_api_Piece)) (l ++ [x]) ∧ TurnT N o t_api_Piece G (G1.set o (.cells [v'] t_sl_api_Piece)) := by
  obtain ⟨v', G1, a1, a2, a3, a4, a5⟩ := ap_tok (bytes := 32) h2 hN (r := x.row) rfl rfl rfl (by rw [List.length_map]; omega) (by rw [List.length_map]; omega)
  have hg1 : G1[o]? = some (.cells [ov] t_sl_api_Piece) := by rw [a5 o (lt_get h1) (fun n => ne_tok h1 n _)]; exact h1
  refine ⟨v', G1, a1, hg1, st_cell a2.cell.1 (by simp), a2.cell.2, ⟨v', List.getElem?_set_self (lt_get hg1), ?_⟩, ⟨by simpa using a3, fun i hi hne => by rw [List.getElem?_set_ne (by omega)]; exact a4 i hi, fun i hi hne hn => by rw [List.getElem?_set_ne (by omega)]; exact a5 i hi hn⟩⟩
  rw [List.map_append]
  exact a2.stay fun t _ hg => by rw [List.getElem?_set_ne]; rintro rfl; rw [hg1] at hg; cases hg
theorem BldV.app {N b : Nat} {G : List AObj} {w : Str} (h : BldV N b G w) (L : List AObj) : BldV N b (G ++ L) w := by
  obtain ⟨ad, bv, h1, ha, h2⟩ := h.ex
  exact ⟨ad, bv, hp_getl h1, ha, h2.stay fun t _ hg => by rw [List.getElem?_append_left (lt_get hg)]⟩
theorem PcsV.app {N o : Nat} {G : List AObj} {l : List Piece} (h : PcsV N o G l) (L : List AObj) : PcsV N o (G ++ L) l := by
  obtain ⟨ov, h1, h2⟩ := h
  exact ⟨ov, hp_getl h1, h2.stay fun t _ hg => by rw [List.getElem?_append_left (lt_get hg)]⟩
theorem BldV.turn {N o b : Nat} {G G' : List AObj} {w : Str} (h : BldV N b G w) (ht : TurnT N o t_api_Piece G G') (hob : o ≠ b) (ho : ∃ cs T, G[o]? = some (.cells cs T)) (hne : t_api_Piece ≠ t_uint8) : BldV N b G' w := by
  obtain ⟨ad, bv, h1, ha, h2⟩ := h.ex
  obtain ⟨cs, T, ho⟩ := ho
  refine ⟨ad, bv, by rw [ht.2.2 b (lt_get h1) (Ne.symm hob) (fun n => ne_tok h1 n _)]; exact h1, ha, h2.stay fun t _ hg => ht.2.2 t (lt_get hg) ?_ ?_⟩
  · rintro rfl; rw [ho] at hg; cases hg
  · intro n h3; rw [hg] at h3; injection h3 with h3; injection h3 with _ h3; exact hne h3.symm
theorem flush_eq (w : Str) : flushP w = if w = [] then [] else [⟨1, w, false⟩] := by
  unfold flushP; cases w <;> rfl
theorem run_flush (hB : BasE E) (hS : StrE E) (hC : BldE E) (hD : ExtD M) (hR : E.fn f_strings_Builder_Reset = some a_strings_Builder_Reset) {G : List AObj} {N o b : Nat} {w : Str} {l : List Piece} (hb : BldV N b G w) (hp : PcsV N o G l) (hob : o ≠ b) (hN : N ≤ G.length) (hw : w.length ≤ 1000000000) (hl : l.length ≤ 1000000) :
    ∃ G', M.run f_docs_Read_1 [.ptr b 0, .ptr o 0] G = some (.ret (.bool (textF w)), G') ∧ BldV N b G' [] ∧ PcsV N o G' (l ++ flushP w) ∧ G.length ≤ G'.length ∧ (∀ i, i < N → i ≠ o → i ≠ b → G'[i]? = G[i]?) ∧ ∀ i, i < G.length → i ≠ o → i ≠ b → (∀ n e, G[i]? ≠ some (.tok n e)) → G'[i]? = G[i]? := by
  have h1 := run_bStr M hC hb hw
  have h2 := run_bReset M hR hb
  obtain ⟨ad, bv, hg, ha, hv⟩ := hb.ex
  obtain ⟨ov, hp1, hp2⟩ := hp
  have hlt := lt_get hg
  have hT := fun H => run_isText M hB hD (s := w) (by simp only [maxL]; omega) H
  have hg2 : (G.set b (.cells [.nilp, .slice .nil 1 []] t_strings_Builder))[b]? = some (.cells [.nilp, .slice .nil 1 []] t_strings_Builder) := List.getElem?_set_self hlt
  have hb2 : BldV N b (G.set b (.cells [.nilp, .slice .nil 1 []] t_strings_Builder)) [] := ⟨.nilp, .slice .nil 1 [], hg2, .inl rfl, .inl ⟨rfl, rfl⟩⟩
  have hq1 : (G.set b (.cells [.nilp, .slice .nil 1 []] t_strings_Builder))[o]? = some (.cells [ov] t_sl_api_Piece) := by rw [List.getElem?_set_ne (Ne.symm hob)]; exact hp1
  have hq2 : TokV N t_api_Piece 3 (G.set b (.cells [.nilp, .slice .nil 1 []] t_strings_Builder)) ov (l.map Piece.row) := hp2.stay fun t _ ht => by
    rw [List.getElem?_set_ne]; rintro rfl; rw [hg] at ht; cases ht
  have hlen : (G.set b (.cells [.nilp, .slice .nil 1 []] t_strings_Builder)).length = G.length := by simp
  have hkeep2 : ∀ i, i ≠ b → (G.set b (.cells [.nilp, .slice .nil 1 []] t_strings_Builder))[i]? = G[i]? := fun i hne => by rw [List.getElem?_set_ne (by omega)]
  have hkeep : ∀ i, i < N → i ≠ o → i ≠ b → (G.set b (.cells [.nilp, .slice .nil 1 []] t_strings_Builder))[i]? = G[i]? := fun i _ _ hne => by rw [List.getElem?_set_ne (by omega)]
  generalize G.set b (.cells [.nilp, .slice .nil 1 []] t_strings_Builder) = G1 at *
  cases hwe : w == [] with
  | true =>
    refine ⟨G1, ?_, hb2, ⟨ov, hq1, by rw [flushP, hwe]; simpa [sel] using hq2⟩, by omega, hkeep, fun i _ _ hne _ => hkeep2 i hne⟩
    rw [run_c M hS.docs_Read_1 rfl (c := c_docs_Read_1) rfl, c_docs_Read_1]
    simp (maxSteps := 3000000) (maxDischargeDepth := 6) +contextual -implicitDefEqProofs only [amC M, ↓amD, Nat.reduceBEq, Nat.reduceAdd, env, fargs, q_docs_Read_1, h1, h2, hwe, hT]
  | false =>
    obtain ⟨v', G2, a1, a2, a3, a4, a5, a6⟩ := run_apP hq1 hq2 (by omega) hl ⟨1, w, false⟩
    refine ⟨G2.set o (.cells [v'] t_sl_api_Piece), ?_, hb2.turn a6 hob ⟨_, _, hq1⟩ (by decide), by rw [flushP, hwe]; exact a5, by have := a6.1; omega, fun i hi hne hne2 => by rw [a6.2.1 i hi hne, hkeep i hi hne hne2], fun i hi hne hne2 hnt => by rw [a6.2.2 i (by omega) hne (fun n => by rw [hkeep2 i hne2]; exact hnt n _), hkeep2 i hne2]⟩
    have l0 : ∀ x : AV, rload none [x] 0 = some x := fun _ => rfl
    simp only [Piece.row] at a1
    rw [run_c M hS.docs_Read_1 rfl (c := c_docs_Read_1) rfl, c_docs_Read_1]
    simp (maxSteps := 3000000) (maxDischargeDepth := 6) +contextual -implicitDefEqProofs only [amC M, ↓amD, Nat.reduceBEq, Nat.reduceAdd, env, fargs, q_docs_Read_1, amG, AV.cell, Nat.reduceMul, Nat.reduceLeDiff, h1, h2, hwe, hT, hq1, l0, a1, a2, a3, a4, runit_mk]
end Go.Am
end

section
set_option linter.unusedSimpArgs false
set_option linter.unusedVariables false
set_option maxRecDepth 100000
set_option maxHeartbeats 4000000
namespace Go.Am
open Go.RowKit
attribute [local congr] dsel_congr sel_c1 slc_cong gsel_congr go_congr aft_congr aftD_congr condR_congr backR_congr inR_congr at2_congr
variable {E : REnv} (M : Mach cdec E)

/-! docs.Read, byte by byte -/
def rdP : Nat → Str → Str → List Piece → Option (List Piece)
  | 0, _, _, _ => none
  | n + 1, s, w, out => match s with
    | [] => sel (textF w) (some (out ++ flushP w)) none
    | c :: t => sel (c == 92)
        (match t with
          | [] => none
          | d :: t' => sel ((d == 92) || (d == 60) || (d == 123)) (rdP n t' (w ++ [d]) out) none)
        (sel ((c == 60) || (c == 123))
          (match mkO (c :: t) with
            | none => none
            | some (p, m) => sel (textF w) (rdP n ((c :: t).drop m) [] (out ++ flushP w ++ [p])) none)
          (rdP n t (w ++ [c]) out))
def rdV (r : Option (List Piece)) : AV := match r with
  | none => .tuple [.slice .any 3 [], .int .u8 4]
  | some out => sel (checkP out == 0) (.tuple [.slice .any 3 (out.map Piece.row), .int .u8 0]) (.tuple [.slice .any 3 [], .int .u8 (checkP out)])
abbrev rdTab : AC := .tab 0 g_docs_Read_0 (.tab 1 g_docs_Read_1 .skip)
theorem rdT0 : findT rdTab 0 = some g_docs_Read_0 := rfl
theorem rdT1 : findT rdTab 1 = some g_docs_Read_1 := rfl
structure RdB (i : Nat) (w : Str) (out : List Piece) : Prop where
  w : w.length ≤ i
  n : out.length ≤ 2 * i
  t : ∀ x ∈ out, x.text.length ≤ 65536
theorem RdB.flush {i : Nat} {w : Str} {out : List Piece} (h : RdB i w out) (hi : i ≤ 65536) : (out ++ flushP w).length ≤ 2 * i + 1 ∧ ∀ x ∈ out ++ flushP w, x.text.length ≤ 65536 := by
  rw [flush_eq]
  have h1 := h.w
  have h2 := h.n
  split
  · exact ⟨by simp; omega, by simpa using h.t⟩
  · refine ⟨by simp; omega, fun x hx => ?_⟩
    rcases List.mem_append.1 hx with hx | hx
    · exact h.t x hx
    · simp at hx; subst hx; dsimp only; omega
theorem PcsV.val {N o : Nat} {G : List AObj} {l : List Piece} (h : PcsV N o G l) : ∃ tg, G[o]? = some (.cells [.slice tg 3 (l.map Piece.row)] t_sl_api_Piece) ∧ tagLt G.length tg ∧ TokV N t_api_Piece 3 G (.slice tg 3 (l.map Piece.row)) (l.map Piece.row) := by
  obtain ⟨ov, h1, h2⟩ := h
  rcases h2 with ⟨h3, rfl⟩ | ⟨t, ht, rfl, hg⟩
  · rw [h3]; exact ⟨.nil, h1, trivial, .inl ⟨rfl, rfl⟩⟩
  · exact ⟨.own t, h1, lt_get hg, .inr ⟨t, ht, rfl, hg⟩⟩
theorem pre_turn {H0 G G' : List AObj} {o b : Nat} (hP : Pre H0 G) (ho : H0.length ≤ o) (hb : H0.length ≤ b) (hl : G.length ≤ G'.length) (h : ∀ i, i < H0.length → i ≠ o → i ≠ b → G'[i]? = G[i]?) : Pre H0 G' :=
  ⟨Nat.le_trans hP.1 hl, fun i hi => by rw [h i hi (by omega) (by omega)]; exact hP.2 i hi⟩

/-- The end: what is gathered is put down, and all is looked at. -/
theorem rd_end (hB : BasE E) (hS : StrE E) (hC : BldE E) (hD : ExtD M) (hR : E.fn f_strings_Builder_Reset = some a_strings_Builder_Reset) {H0 G : List AObj} {o b i : Nat} {w : Str} {out : List Piece} (hP : Pre H0 G) (ho : H0.length ≤ o) (hbo : H0.length ≤ b) (hob : o ≠ b)
    (hb : BldV H0.length b G w) (hp : PcsV H0.length o G out) (hi : i ≤ 65536) (hbd : RdB i w out) {a : Env} (a4 : fget a 4 = .ptr o 0) (a7 : fget a 7 = .fn (.func f_docs_Read_1) [] [.ptr b 0, .ptr o 0]) (TB : AC) :
    M.go a_docs_Read H0 [.c g_docs_Read_0, .sc TB] a G = some (.ret (rdV (sel (textF w) (some (out ++ flushP w)) none)), H0) := by
  obtain ⟨G1, f1, f2, f3, f4, f5, _⟩ := run_flush M hB hS hC hD hR hb hp hob (by have := hP.1; omega) (by have := hbd.w; omega) (by have := hbd.n; omega)
  obtain ⟨tg, v1, v2, v3⟩ := f3.val
  have hP1 := pre_turn hP ho hbo f4 f5
  have hbf := hbd.flush hi
  have hCP := fun H => run_CheckPieces M hB hD (l := ⟨tg, out ++ flushP w⟩) (by have := hbf.1; dsimp only; omega) (fun x hx => by have := hbf.2 x hx; omega) H
  dsimp only at hCP
  have l0 : ∀ x : AV, rload none [x] 0 = some x := fun _ => rfl
  have hct := hP1.cut
  have htk := hP1.take
  rw [go_head M g_docs_Read_0.eq_1]
  cases ht : textF w with
  | false =>
    rw [ht] at f1
    simp only [sel_false, rdV]
    simp (maxSteps := 3000000) (maxDischargeDepth := 6) +contextual -implicitDefEqProofs only [amC M, ↓amD, Nat.reduceBEq, Nat.reduceAdd, env, fargs, q_docs_Read, a4, a7, f1, hct, htk, rowsWk_nil, (show anyV (.tuple [.slice .nil 3 [], .int .u8 4]) = .tuple [.slice .any 3 [], .int .u8 4] from rfl)]
  | true =>
    rw [ht] at f1
    simp only [sel_true, rdV]
    cases hz : checkP (out ++ flushP w) == 0 with
    | false =>
      have e2 : ∀ n : Int, anyV (.tuple [.slice .nil 3 [], .int .u8 n]) = .tuple [.slice .any 3 [], .int .u8 n] := fun _ => rfl
      simp (maxSteps := 3000000) (maxDischargeDepth := 6) +contextual -implicitDefEqProofs only [amC M, ↓amD, Nat.reduceBEq, Nat.reduceAdd, env, fargs, q_docs_Read, a4, a7, f1, v1, l0, hCP, hz, hct, htk, rowsWk_nil, e2]
    | true =>
      have e2 : anyV (.tuple [.slice tg 3 ((out ++ flushP w).map Piece.row), .int .u8 0]) = .tuple [.slice .any 3 ((out ++ flushP w).map Piece.row), .int .u8 0] := rfl
      have hw : ∀ n, RowsWk n ((out ++ flushP w).map Piece.row) := fun n => by
        rw [rowsWk_map]; exact fun _ _ => ⟨wk_int _ _ _, wk_str _ _, wk_bool _ _, trivial⟩
      have hwa : Wk H0.length (.slice tg 3 ((out ++ flushP w).map Piece.row)) (.slice .any 3 ((out ++ flushP w).map Piece.row)) := wk_any (hw _)
      simp (maxSteps := 3000000) (maxDischargeDepth := 6) +contextual -implicitDefEqProofs only [amC M, ↓amD, Nat.reduceBEq, Nat.reduceAdd, env, fargs, q_docs_Read, a4, a7, f1, v1, l0, hCP, hz, hct, htk, e2, hwa]

theorem wr_text_len (x : Piece) : x.text.length ≤ (wrF x).length := by
  have he : ∀ s : Str, s.length ≤ (escF s).length := fun s => by
    induction s with
    | nil => exact Nat.le_refl _
    | cons c t ih => rw [escF_cons, List.length_append]; split <;> (simp only [List.length_cons, List.length_nil]; omega)
  have := he x.text
  unfold wrF
  cases x.kind == 2 <;> cases x.kind == 3 <;> cases x.kind == 4 <;> cases x.kind == 5 <;> simp [sel] <;> omega
theorem rd_go (hB : BasE E) (hS : StrE E) (hC : BldE E) (hX : ExtE M) (hD : ExtD M) (hR : E.fn f_strings_Builder_Reset = some a_strings_Builder_Reset) {s : Str} (hs : s.length ≤ 65536) {H0 : List AObj} {o b : Nat} (ho : H0.length ≤ o) (hbo : H0.length ≤ b) (hob : o ≠ b) :
    ∀ (n i : Nat) (G : List AObj) (w : Str) (out : List Piece) (a : Env), s.length - i < n → i ≤ s.length → Pre H0 G → BldV H0.length b G w → PcsV H0.length o G out → RdB i w out →
      fget a 0 = .str s → fget a 4 = .ptr o 0 → fget a 5 = .ptr b 0 → fget a 6 = .int .i64 (i : Int) → fget a 7 = .fn (.func f_docs_Read_1) [] [.ptr b 0, .ptr o 0] →
      M.go a_docs_Read H0 [.c g_docs_Read_1, .sc rdTab] a G = some (.ret (rdV (rdP n (s.drop i) w out)), H0) := by
  intro n
  induction n with
  | zero => intro i G w out a h; omega
  | succ n IH =>
    intro i G w out a h hi hP hb hp hbd a0 a4 a5 a6 a7
    have hG : H0.length ≤ G.length := hP.1
    have hwl := hbd.w
    have hol := hbd.n
    rw [rdP.eq_def]
    dsimp only
    cases hsd : s.drop i with
    | nil =>
      have hil : i = s.length := by have := congrArg List.length hsd; simp at this; omega
      subst hil
      have hend := fun a (a4 : fget a 4 = .ptr o 0) (a7 : fget a 7 = .fn (.func f_docs_Read_1) [] [.ptr b 0, .ptr o 0]) => rd_end M hB hS hC hD hR hP ho hbo hob hb hp hs hbd (a := a) a4 a7 rdTab
      rw [go_head M g_docs_Read_1.eq_1]
      simp (maxSteps := 3000000) (maxDischargeDepth := 6) +contextual -implicitDefEqProofs only [amC M, ↓amD, Nat.reduceBEq, Nat.reduceAdd, env, fargs, q_docs_Read, a0, a4, a5, a6, a7, beq_self_eq_true, rdT0, hend]
    | cons c t =>
      have hlt : i < s.length := by have := congrArg List.length hsd; simp at this; omega
      have hx : s[i]? = some c := by rw [← List.head?_drop, hsd]; rfl
      have hd1 : s.drop (i + 1) = t := by rw [← List.drop_drop, hsd]; rfl
      have hne : (i == s.length) = false := by simp; omega
      have hws : IntKind.i64.wrap ((i : Int) + 1) = ((i + 1 : Nat) : Int) := wrap_s hlt (by simp only [maxL]; omega)
      have hfr := hp
      obtain ⟨ov0, hov0, _⟩ := hfr
      obtain ⟨ad0, bv0, hbv0, _, _⟩ := hb.ex
      dsimp only
      have hct := hP.cut
      have htk := hP.take
      cases h92 : c == 92 with
      | true =>
        simp only [sel_true]
        cases t with
        | nil =>
          have hil : i + 1 = s.length := by have := congrArg List.length hsd; simp at this; omega
          have he : (i + 1 == s.length) = true := by simp [hil]
          simp only [rdV]
          rw [go_head M g_docs_Read_1.eq_1]
          simp (maxSteps := 3000000) (maxDischargeDepth := 6) +contextual -implicitDefEqProofs only [amC M, ↓amD, Nat.reduceBEq, Nat.reduceAdd, env, fargs, q_docs_Read, a0, a4, a5, a6, a7, hne, hlt, hx, qB, h92, hws, he, hct, htk, rowsWk_nil, (show anyV (.tuple [.slice .nil 3 [], .int .u8 4]) = .tuple [.slice .any 3 [], .int .u8 4] from rfl)]
        | cons d t' =>
          have hlt1 : i + 1 < s.length := by have := congrArg List.length hsd; simp at this; omega
          have he : (i + 1 == s.length) = false := by simp; omega
          have hx1 : s[i + 1]? = some d := by rw [← List.head?_drop, hd1]; rfl
          have hd2 : s.drop (i + 2) = t' := by rw [show i + 2 = i + 1 + 1 by rfl, ← List.drop_drop, hd1]; rfl
          have hw2 : IntKind.i64.wrap ((i : Int) + 2) = ((i + 2 : Nat) : Int) := by rw [wrap_i64 (by omega) (by omega)]; omega
          have hsl : rsls (.str s) (some (.int .i64 ((i + 1 : Nat) : Int))) (some (.int .i64 ((i + 2 : Nat) : Int))) = some (.str [d]) := by
            rw [sls_both (by omega) (by omega), hd1, show i + 2 - (i + 1) = 1 by omega]; rfl
          have hcon := fun H => run_sContains M hS hX [92, 60, 123] d H
          have hany : ([92, 60, 123] : Str).any (fun e => e == d) = ((d == 92) || (d == 60) || (d == 123)) := by
            simp only [List.any_cons, List.any_nil, Bool.or_false]
            rw [Bool.beq_comm (a := (92 : UInt8)), Bool.beq_comm (a := (60 : UInt8)), Bool.beq_comm (a := (123 : UInt8))]
            exact (Bool.or_assoc _ _ _).symm
          rw [hany] at hcon
          dsimp only
          cases hesc : (d == 92) || (d == 60) || (d == 123) with
          | false =>
            rw [hesc] at hcon
            simp only [sel_false, rdV]
            rw [go_head M g_docs_Read_1.eq_1]
            simp (maxSteps := 3000000) (maxDischargeDepth := 6) +contextual -implicitDefEqProofs only [amC M, ↓amD, Nat.reduceBEq, Nat.reduceAdd, env, fargs, q_docs_Read, a0, a4, a5, a6, a7, hne, hlt, hx, qB, h92, hws, he, hw2, hsl, hcon, hct, htk, rowsWk_nil, (show anyV (.tuple [.slice .nil 3 [], .int .u8 4]) = .tuple [.slice .any 3 [], .int .u8 4] from rfl)]
          | true =>
            rw [hesc] at hcon
            simp only [sel_true]
            obtain ⟨G1, w1, w2, w3⟩ := run_WB M hC hX hb hG (by omega) d
            have hP1 : Pre H0 G1 := pre_turn hP ho hbo w3.1 fun j hj _ hjb => w3.2.1 j hj hjb
            have ih := fun a => IH (i + 2) G1 (w ++ [d]) out a (by omega) (by omega) hP1 w2 (hp.turn w3 hob ⟨_, _, hbv0⟩ (by decide)) ⟨by simp; omega, by omega, hbd.t⟩
            rw [hd2] at ih
            rw [go_head M g_docs_Read_1.eq_1]
            simp (maxSteps := 3000000) (maxDischargeDepth := 6) +contextual -implicitDefEqProofs only [amC M, ↓amD, Nat.reduceBEq, Nat.reduceAdd, env, fargs, q_docs_Read, a0, a4, a5, a6, a7, hne, hlt, hx, qB, h92, hws, he, hw2, hsl, hcon, hlt1, hx1, w1, rdT1, ih]
      | false =>
        simp only [sel_false]
        cases htag : (c == 60) || (c == 123) with
        | false =>
          simp only [sel_false]
          have h60 : (c == 60) = false := by simp at htag ⊢; exact htag.1
          have h123 : (c == 123) = false := by simp at htag ⊢; exact htag.2
          obtain ⟨G1, w1, w2, w3⟩ := run_WB M hC hX hb hG (by omega) c
          have hP1 : Pre H0 G1 := pre_turn hP ho hbo w3.1 fun j hj _ hjb => w3.2.1 j hj hjb
          have ih := fun a => IH (i + 1) G1 (w ++ [c]) out a (by omega) (by omega) hP1 w2 (hp.turn w3 hob ⟨_, _, hbv0⟩ (by decide)) ⟨by simp; omega, by omega, hbd.t⟩
          rw [hd1] at ih
          rw [go_head M g_docs_Read_1.eq_1]
          simp (maxSteps := 3000000) (maxDischargeDepth := 6) +contextual -implicitDefEqProofs only [amC M, ↓amD, Nat.reduceBEq, Nat.reduceAdd, env, fargs, q_docs_Read, a0, a4, a5, a6, a7, hne, hlt, hx, qB, h92, h60, h123, hws, w1, rdT1, ih]
        | true =>
          simp only [sel_true]
          have hct2 : (c == 60) = true ∨ (c == 123) = true := by simpa using htag
          have hsf := sls_from (s := s) (k := .i64) (i := i) (by omega)
          rw [hsd] at hsf
          have htl : t.length + 1 ≤ 70368744177664 := by have := congrArg List.length hsd; simp at this; omega
          have hmk := fun H => run_marked M hB hS hX hct2 htl H
          have hcond : (c == 60) = false → (c == 123) = true := fun h => by rcases hct2 with h2 | h2; rw [h2] at h; cases h; exact h2
          cases hm : mkO (c :: t) with
          | none =>
            rw [hm] at hmk
            have hz : dP.row = [.int .u8 0, .str [], .bool false] := rfl
            simp only [mkV] at hmk
            simp only [rdV]
            rw [go_head M g_docs_Read_1.eq_1]
            simp (maxSteps := 3000000) (maxDischargeDepth := 6) +contextual -implicitDefEqProofs only [amC M, ↓amD, Nat.reduceBEq, Nat.reduceAdd, env, fargs, q_docs_Read, amG, AV.cell, Nat.reduceMul, Nat.reduceLeDiff, a0, a4, a5, a6, a7, hne, hlt, hx, qB, h92, hcond, hsf, hmk, aextract, List.getElem?_cons_succ, qPiece, beq_self_eq_true, hct, htk, rowsWk_nil, (show anyV (.tuple [.slice .nil 3 [], .int .u8 4]) = .tuple [.slice .any 3 [], .int .u8 4] from rfl)]
          | some q =>
            obtain ⟨pc, m⟩ := q
            rw [hm] at hmk
            simp only [mkV] at hmk
            dsimp only
            have hV := mkO_V hm
            have hlen : (c :: t).length = s.length - i := by rw [← hsd, List.length_drop]
            have hml : m ≤ (c :: t).length ∧ 2 ≤ m ∧ pc.text.length ≤ m := by
              obtain ⟨c', w', hw', _⟩ := wr_shape hV.name hV.kind
              have h1 := hV.len
              have h2 := congrArg List.length hV.wr
              rw [List.length_take] at h2
              have h3 := congrArg List.length hw'
              simp only [List.length_cons, List.length_append, List.length_nil] at h3
              refine ⟨by omega, by omega, ?_⟩
              rw [h1]
              exact wr_text_len pc
            have hGl : (G ++ [AObj.cells pc.row t_api_Piece]).length = G.length + 1 := by simp
            obtain ⟨G2, f1, f2, f3, f4, f5, f6⟩ := run_flush M hB hS hC hD hR (hb.app [.cells pc.row t_api_Piece]) (hp.app [.cells pc.row t_api_Piece]) hob (by omega) (by omega) (by omega)
            have hol2 := lt_get hov0
            have hbl2 := lt_get hbv0
            have f7 : G2[G.length]? = some (.cells pc.row t_api_Piece) := by
              rw [f6 G.length (by omega) (by omega) (by omega) (fun n e => by rw [hp_get0]; simp), hp_get0]; rfl
            have hP2 : Pre H0 G2 := pre_turn (hP.app [.cells pc.row t_api_Piece]) ho hbo f4 f5
            have hct3 := hP2.cut
            have htk3 := hP2.take
            have hm0 : ((m : Int) == 0) = false := by simp; omega
            have hbf := hbd.flush (i := i) (by omega)
            cases htx : textF w with
            | false =>
              rw [htx] at f1
              simp only [sel_false, rdV]
              rw [go_head M g_docs_Read_1.eq_1]
              simp (maxSteps := 3000000) (maxDischargeDepth := 6) +contextual -implicitDefEqProofs only [amC M, ↓amD, Nat.reduceBEq, Nat.reduceAdd, env, fargs, q_docs_Read, amG, AV.cell, Nat.reduceMul, Nat.reduceLeDiff, a0, a4, a5, a6, a7, hne, hlt, hx, qB, h92, hcond, hsf, hmk, aextract, List.getElem?_cons_succ, qPiece, hp_get0, hp_set0, hm0, f1, hct3, htk3, rowsWk_nil, (show anyV (.tuple [.slice .nil 3 [], .int .u8 4]) = .tuple [.slice .any 3 [], .int .u8 4] from rfl)]
            | true =>
              rw [htx] at f1
              simp only [sel_true]
              obtain ⟨ov, k1, k2⟩ := f3
              obtain ⟨v', G3, e1, e2, e3, e4, e5, e6⟩ := run_apP k1 k2 (by have := hP2.1; omega) (by omega) pc
              have hP3 : Pre H0 (G3.set o (.cells [v'] t_sl_api_Piece)) := pre_turn hP2 ho hbo e6.1 fun j hj hjo _ => e6.2.1 j hj hjo
              have l0 : ∀ x : AV, rload none [x] 0 = some x := fun _ => rfl
              have hwm : IntKind.i64.wrap ((i : Int) + (m : Int)) = ((i + m : Nat) : Int) := wrap_a (by simp only [maxL]; omega)
              have hdm : (c :: t).drop m = s.drop (i + m) := by rw [← hsd, List.drop_drop]
              have ih := fun a => IH (i + m) (G3.set o (.cells [v'] t_sl_api_Piece)) [] (out ++ flushP w ++ [pc]) a (by omega) (by omega) hP3 (f2.turn e6 hob ⟨_, _, k1⟩ (by decide)) e5 ⟨by simp, by rw [List.length_append]; have := hbf.1; simp only [List.length_cons, List.length_nil]; omega, fun x hx => by
                rcases List.mem_append.1 hx with hx | hx
                · exact hbf.2 x hx
                · simp at hx; subst hx; omega⟩
              rw [hdm]
              simp only [Piece.row] at e1 f7 hmk f1
              rw [go_head M g_docs_Read_1.eq_1]
              simp (maxSteps := 3000000) (maxDischargeDepth := 6) +contextual -implicitDefEqProofs only [amC M, ↓amD, Nat.reduceBEq, Nat.reduceAdd, env, fargs, q_docs_Read, amG, AV.cell, Nat.reduceMul, Nat.reduceLeDiff, a0, a4, a5, a6, a7, hne, hlt, hx, qB, h92, hcond, hsf, hmk, aextract, List.getElem?_cons_succ, qPiece, Piece.row, hp_get0, hp_set0, hm0, f1, f7, k1, l0, e1, e2, e3, e4, runit_mk, hwm, rdT1, ih]

/-- The pieces of a text, or none where it is of no form. -/
def readF (s : Str) : Option (List Piece) := rdP (s.length + 1) s [] []
def readV (s : Str) : AV := sel (decide ((65536 : Int) < (s.length : Int))) (.tuple [.slice .any 3 [], .int .u8 3]) (rdV (readF s))
def tailA : AC → AC
  | .seq _ y => y
  | x => x
theorem rd_lbl {fn : AFn} {H0 : List AObj} {k : List Fra} {a : Env} {H : List AObj} {g r : AC} (hg : g = .seq .skip r) : M.go fn H0 (.c (.seq (.lbl 1) r) :: k) a H = M.go fn H0 (.c g :: k) a H := by
  subst hg
  rw [go_seq, go_lbl, go_seq, go_skip]
theorem run_Read (hB : BasE E) (hS : StrE E) (hC : BldE E) (hX : ExtE M) (hD : ExtD M) (hR : E.fn f_strings_Builder_Reset = some a_strings_Builder_Reset) {s : Str} (H : List AObj) (hs : s.length ≤ maxL) :
    M.run f_docs_Read [.str s] H = some (.ret (readV s), H) := by
  rw [run_c M hS.docs_Read rfl (c := c_docs_Read) rfl, c_docs_Read]
  unfold readV
  cases h6 : decide ((65536 : Int) < (s.length : Int)) with
  | true => simp (maxSteps := 3000000) (maxDischargeDepth := 6) +contextual -implicitDefEqProofs only [amC M, ↓amD, Nat.reduceBEq, Nat.reduceAdd, env, fargs, q_docs_Read, h6, cut_refl, hp_self, rowsWk_nil, (show anyV (.tuple [.slice .nil 3 [], .int .u8 3]) = .tuple [.slice .any 3 [], .int .u8 3] from rfl)]
  | false =>
    have hsl : s.length ≤ 65536 := by have := of_decide_eq_false h6; omega
    obtain ⟨g, hg⟩ : ∃ g, g = g_docs_Read_1 := ⟨_, rfl⟩
    have hl := fun k a H2 => rd_lbl M (fn := a_docs_Read) (H0 := H) (k := k) (a := a) (H := H2) (g := g) (r := tailA g_docs_Read_1) (by rw [hg]; rfl)
    simp only [g_docs_Read_1.eq_1, tailA] at hl
    simp (maxSteps := 3000000) (maxDischargeDepth := 6) +contextual -implicitDefEqProofs only [amC M, ↓amD, Nat.reduceBEq, Nat.reduceAdd, env, fargs, q_docs_Read, amG, AV.cell, Nat.reduceMul, Nat.reduceLeDiff, h6, ↓hl, qU]
    rw [hg]
    have g0 : ∀ L : List AObj, (H ++ L)[H.length + 1 + 1]? = L[2]? := fun L => by rw [show H.length + 1 + 1 = H.length + 2 by rfl, hp_getk]
    have hgo := fun a => rd_go M hB hS hC hX hD hR hsl (H0 := H) (o := H.length) (b := H.length + 1 + 1) (Nat.le_refl _) (by omega) (by omega) (s.length + 1) 0 (H ++ [.cells [.slice .nil 3 []] t_sl_api_Piece, .tok 0 t_uint8, .cells [.nilp, .slice (.own (H.length + 1)) 1 []] t_strings_Builder]) [] [] a (by omega) (by omega) ((Pre.refl H).app _)
      ⟨.nilp, .slice (.own (H.length + 1)) 1 [], by rw [g0]; rfl, .inl rfl, .inr ⟨H.length + 1, by omega, rfl, by rw [hp_getk]; rfl⟩⟩ ⟨.slice .nil 3 [], by rw [hp_get0]; rfl, .inl ⟨rfl, rfl⟩⟩ ⟨by simp, by simp, fun x hx => by cases hx⟩
    rw [List.drop_zero] at hgo
    refine hgo _ ?_ ?_ ?_ ?_ ?_ <;> simp [fget_fset]
end Go.Am
end

section
set_option linter.unusedSimpArgs false
set_option linter.unusedVariables false
set_option maxRecDepth 100000
set_option maxHeartbeats 4000000
namespace Go.Am
open Go.RowKit
attribute [local congr] dsel_congr sel_c1 slc_cong gsel_congr go_congr aft_congr aftD_congr condR_congr backR_congr inR_congr at2_congr
variable {E : REnv} (M : Mach cdec E)

/-! The specification's Read -/
/-- A text without tags at the beginning: what it reads as, and how long it is. -/
def chunkF : Nat → Str → Option (Str × Nat)
  | 0, _ => none
  | n + 1, s => match s with
    | [] => some ([], 0)
    | c :: t => sel ((c == 60) || (c == 123)) (some ([], 0)) (sel (c == 92)
        (match t with
          | [] => none
          | d :: t' => sel ((d == 92) || (d == 60) || (d == 123)) ((chunkF n t').map fun r => (d :: r.1, r.2 + 2)) none)
        ((chunkF n t).map fun r => (c :: r.1, r.2 + 1)))
def rdR : Nat → Str → List Piece → Option (List Piece)
  | 0, _, _ => none
  | n + 1, s, out => match s with
    | [] => some out
    | c :: t => sel ((c == 60) || (c == 123))
        (match refO (c :: t) with
          | none => none
          | some (p, m) => rdR n ((c :: t).drop m) (out ++ [p]))
        (match chunkF ((c :: t).length + 1) (c :: t) with
          | none => none
          | some (v, m) => sel (textF v) (rdR n ((c :: t).drop m) (out ++ [⟨1, v, false⟩])) none)
theorem chunkF_le : ∀ (n : Nat) (s : Str) (v : Str) (m : Nat), chunkF n s = some (v, m) → m ≤ s.length ∧ v.length ≤ m
  | 0, _, _, _, h => by cases h
  | n + 1, s, v, m, h => by
    rw [chunkF.eq_def] at h
    dsimp only at h
    cases s with
    | nil => cases h; exact ⟨Nat.le_refl _, Nat.le_refl _⟩
    | cons c t =>
      dsimp only at h
      cases h1 : (c == 60) || (c == 123) with
      | true => rw [h1] at h; cases h; exact ⟨Nat.zero_le _, Nat.le_refl _⟩
      | false =>
        rw [h1, sel_false] at h
        cases h2 : c == 92 with
        | true =>
          rw [h2, sel_true] at h
          cases t with
          | nil => cases h
          | cons d t' =>
            dsimp only at h
            cases h3 : (d == 92) || (d == 60) || (d == 123) with
            | false => rw [h3] at h; cases h
            | true =>
              rw [h3, sel_true] at h
              cases h4 : chunkF n t' with
              | none => rw [h4] at h; cases h
              | some r =>
                obtain ⟨v', m'⟩ := r
                rw [h4] at h
                cases h
                have := chunkF_le n t' v' m' h4
                simp only [List.length_cons]; omega
        | false =>
          rw [h2, sel_false] at h
          cases h4 : chunkF n t with
          | none => rw [h4] at h; cases h
          | some r =>
            obtain ⟨v', m'⟩ := r
            rw [h4] at h
            cases h
            have := chunkF_le n t v' m' h4
            simp only [List.length_cons]; omega
def badV : AV := .tuple [.slice .any 3 [], .int .u8 4]
theorem badA : anyV (.tuple [.slice .nil 3 [], .int .u8 4]) = badV := rfl
theorem rr0 {s : Str} (hs : s.length ≤ 65536) {H0 G : List AObj} (hct : CutOk H0 G) (htk : G.take H0.length = H0) {tg : Tag} {rows : List (List AV)} (k : List Fra) : ∀ (n i : Nat) (w : Str) (He : List AObj), s.length - i < n → i ≤ s.length → w.length ≤ i →
    M.go a_truchmanref01_Read H0 (.c l_truchmanref01_Read_0 :: .lp ⟨(some [0, 4, 5, 10]), [], false⟩ l_truchmanref01_Read_0 He :: .blk 2 :: .c (.lv [0, 4, 5, 10]) :: k) (kv [(0, .str s), (4, .slice tg 3 rows), (5, .int .i64 i), (10, .str w)]) G =
      (match chunkF n (s.drop i) with
        | none => some (.ret badV, H0)
        | some (v, m) => M.go a_truchmanref01_Read H0 k (kv [(0, .str s), (4, .slice tg 3 rows), (5, .int .i64 ((i + m : Nat) : Int)), (10, .str (w ++ v))]) G) := by
  intro n
  induction n with
  | zero => intro i w He h; omega
  | succ n IH =>
    intro i w He h hi hw
    rw [chunkF.eq_def]
    dsimp only
    cases hsd : s.drop i with
    | nil =>
      have hil : i = s.length := by have := congrArg List.length hsd; simp at this; omega
      subst hil
      dsimp only
      rw [List.append_nil, Nat.add_zero]
      rw [go_head M l_truchmanref01_Read_0.eq_1]
      simp (maxSteps := 3000000) (maxDischargeDepth := 6) +contextual -implicitDefEqProofs only [amC M, ↓amD, Nat.reduceBEq, Nat.reduceAdd, env, fargs, q_truchmanref01_Read, Nat.lt_irrefl]
    | cons c t =>
      have hlt : i < s.length := by have := congrArg List.length hsd; simp at this; omega
      have hx : s[i]? = some c := by rw [← List.head?_drop, hsd]; rfl
      have hd1 : s.drop (i + 1) = t := by rw [← List.drop_drop, hsd]; rfl
      have hws : IntKind.i64.wrap ((i : Int) + 1) = ((i + 1 : Nat) : Int) := wrap_s hlt (by simp only [maxL]; omega)
      have hsl : rsls (.str s) (some (.int .i64 (i : Int))) (some (.int .i64 ((i + 1 : Nat) : Int))) = some (.str [c]) := by
        rw [sls_both (by omega) (by omega), hsd, show i + 1 - i = 1 by omega]; rfl
      have hadd : ∀ d, astrOp .add w [d] = some (.str (w ++ [d])) := fun d => st_addO (by simp; omega)
      dsimp only
      cases htag : (c == 60) || (c == 123) with
      | true =>
        have hcond : (c == 60) = false → (c == 123) = true := fun h => by rw [h] at htag; simpa using htag
        rw [sel_true]
        dsimp only
        rw [List.append_nil, Nat.add_zero]
        cases h60 : c == 60 with
        | true =>
          rw [go_head M l_truchmanref01_Read_0.eq_1]
          simp (maxSteps := 3000000) (maxDischargeDepth := 6) +contextual -implicitDefEqProofs only [amC M, ↓amD, Nat.reduceBEq, Nat.reduceAdd, env, fargs, q_truchmanref01_Read, hlt, hx, qB, h60]
        | false =>
          rw [go_head M l_truchmanref01_Read_0.eq_1]
          simp (maxSteps := 3000000) (maxDischargeDepth := 6) +contextual -implicitDefEqProofs only [amC M, ↓amD, Nat.reduceBEq, Nat.reduceAdd, env, fargs, q_truchmanref01_Read, hlt, hx, qB, h60, hcond h60]
      | false =>
        rw [sel_false]
        have h60 : (c == 60) = false := by simp at htag ⊢; exact htag.1
        have h123 : (c == 123) = false := by simp at htag ⊢; exact htag.2
        cases h92 : c == 92 with
        | false =>
          have ih := fun He => IH (i + 1) (w ++ [c]) He (by omega) (by omega) (by simp; omega)
          rw [hd1] at ih
          rw [sel_false]
          cases hch : chunkF n t with
          | none =>
            rw [hch] at ih
            simp only [kv_cons, kv_nil, Option.map_none] at ih ⊢
            rw [go_head M l_truchmanref01_Read_0.eq_1]
            simp (maxSteps := 3000000) (maxDischargeDepth := 6) +contextual -implicitDefEqProofs only [amC M, ↓amD, Nat.reduceBEq, Nat.reduceAdd, env, fargs, q_truchmanref01_Read, hlt, hx, qB, h60, h123, h92, hws, hsl, hadd, ih]
          | some r =>
            rw [hch] at ih
            obtain ⟨v, m⟩ := r
            simp only [List.append_assoc, List.singleton_append] at ih
            simp only [kv_cons, kv_nil, Option.map_some] at ih ⊢
            rw [show i + (m + 1) = i + 1 + m by omega]
            rw [go_head M l_truchmanref01_Read_0.eq_1]
            simp (maxSteps := 3000000) (maxDischargeDepth := 6) +contextual -implicitDefEqProofs only [amC M, ↓amD, Nat.reduceBEq, Nat.reduceAdd, env, fargs, q_truchmanref01_Read, hlt, hx, qB, h60, h123, h92, hws, hsl, hadd, ih]
        | true =>
          rw [sel_true]
          cases t with
          | nil =>
            have hil : i + 1 = s.length := by have := congrArg List.length hsd; simp at this; omega
            have he : (i + 1 == s.length) = true := by simp [hil]
            dsimp only
            rw [go_head M l_truchmanref01_Read_0.eq_1]
            simp (maxSteps := 3000000) (maxDischargeDepth := 6) +contextual -implicitDefEqProofs only [amC M, ↓amD, Nat.reduceBEq, Nat.reduceAdd, env, fargs, q_truchmanref01_Read, hlt, hx, qB, h60, h123, h92, hws, he, hct, htk, badA, rowsWk_nil]
            rfl
          | cons d t' =>
            have hlt1 : i + 1 < s.length := by have := congrArg List.length hsd; simp at this; omega
            have he : (i + 1 == s.length) = false := by simp; omega
            have hx1 : s[i + 1]? = some d := by rw [← List.head?_drop, hd1]; rfl
            have hd2 : s.drop (i + 2) = t' := by rw [show i + 2 = i + 1 + 1 by rfl, ← List.drop_drop, hd1]; rfl
            have hws2 : IntKind.i64.wrap (((i + 1 : Nat) : Int) + 1) = ((i + 2 : Nat) : Int) := wrap_s hlt1 (by simp only [maxL]; omega)
            have hsl2 : rsls (.str s) (some (.int .i64 ((i + 1 : Nat) : Int))) (some (.int .i64 ((i + 2 : Nat) : Int))) = some (.str [d]) := by
              rw [sls_both (by omega) (by omega), hd1, show i + 2 - (i + 1) = 1 by omega]; rfl
            dsimp only
            cases hesc : (d == 92) || (d == 60) || (d == 123) with
            | false =>
              have q1 : (d == 92) = false := by simp at hesc ⊢; exact hesc.1.1
              have q2 : (d == 60) = false := by simp at hesc ⊢; exact hesc.1.2
              have q3 : (d == 123) = false := by simp at hesc ⊢; exact hesc.2
              rw [sel_false]
              dsimp only
              rw [go_head M l_truchmanref01_Read_0.eq_1]
              simp (maxSteps := 3000000) (maxDischargeDepth := 6) +contextual -implicitDefEqProofs only [amC M, ↓amD, Nat.reduceBEq, Nat.reduceAdd, env, fargs, q_truchmanref01_Read, hlt, hx, qB, h60, h123, h92, hws, he, hlt1, hx1, q1, q2, q3, hct, htk, badA, rowsWk_nil]
              rfl
            | true =>
              have hnn : (!(d == 92) && !(d == 60) && !(d == 123)) = false := by rw [← Bool.not_or, ← Bool.not_or, hesc]; rfl
              have ih := fun He => IH (i + 2) (w ++ [d]) He (by omega) (by omega) (by simp; omega)
              rw [hd2] at ih
              rw [sel_true]
              cases hch : chunkF n t' with
              | none =>
                rw [hch] at ih
                simp only [kv_cons, kv_nil, Option.map_none] at ih ⊢
                rw [go_head M l_truchmanref01_Read_0.eq_1]
                simp (maxSteps := 3000000) (maxDischargeDepth := 6) +contextual -implicitDefEqProofs only [amC M, ↓amD, Nat.reduceBEq, Nat.reduceAdd, env, fargs, q_truchmanref01_Read, hlt, hx, qB, h60, h123, h92, hws, he, hlt1, hx1, hnn, hws2, hsl2, hadd, ih]
              | some r =>
                rw [hch] at ih
                obtain ⟨v, m⟩ := r
                simp only [List.append_assoc, List.singleton_append] at ih
                simp only [kv_cons, kv_nil, Option.map_some] at ih ⊢
                rw [show i + (m + 2) = i + 2 + m by omega]
                rw [go_head M l_truchmanref01_Read_0.eq_1]
                simp (maxSteps := 3000000) (maxDischargeDepth := 6) +contextual -implicitDefEqProofs only [amC M, ↓amD, Nat.reduceBEq, Nat.reduceAdd, env, fargs, q_truchmanref01_Read, hlt, hx, qB, h60, h123, h92, hws, he, hlt1, hx1, hnn, hws2, hsl2, hadd, ih]

theorem chunkF_pos {n : Nat} {c : UInt8} {t v : Str} {m : Nat} (hc : ((c == 60) || (c == 123)) = false) (h : chunkF n (c :: t) = some (v, m)) : 1 ≤ m ∧ v ≠ [] := by
  cases n with
  | zero => cases h
  | succ n =>
    rw [chunkF.eq_def] at h
    dsimp only at h
    rw [hc, sel_false] at h
    cases h2 : c == 92 with
    | true =>
      rw [h2, sel_true] at h
      cases t with
      | nil => cases h
      | cons d t' =>
        dsimp only at h
        cases h3 : (d == 92) || (d == 60) || (d == 123) with
        | false => rw [h3] at h; cases h
        | true =>
          rw [h3, sel_true] at h
          cases h4 : chunkF n t' with
          | none => rw [h4] at h; cases h
          | some r => rw [h4] at h; cases h; exact ⟨by omega, by simp⟩
    | false =>
      rw [h2, sel_false] at h
      cases h4 : chunkF n t with
      | none => rw [h4] at h; cases h
      | some r => rw [h4] at h; cases h; exact ⟨by omega, by simp⟩
theorem idxI_from {p : UInt8 → Bool} : ∀ (l : Str) (i k : Nat), (idxI p i l = -1 ∧ idxI p k l = -1) ∨ ∃ j, j < l.length ∧ idxI p i l = ((i + j : Nat) : Int) ∧ idxI p k l = ((k + j : Nat) : Int)
  | [], i, k => .inl ⟨rfl, rfl⟩
  | c :: l, i, k => by
    cases h : p c with
    | true => exact .inr ⟨0, by simp, by simp [idxI, h, sel], by simp [idxI, h, sel]⟩
    | false =>
      rcases idxI_from (p := p) l (i + 1) (k + 1) with ⟨h1, h2⟩ | ⟨j, h1, h2, h3⟩
      · exact .inl ⟨by simp [idxI, h, sel, h1], by simp [idxI, h, sel, h2]⟩
      · exact .inr ⟨j + 1, by simpa using h1, by simp [idxI, h, sel, h2]; omega, by simp [idxI, h, sel, h3]; omega⟩
theorem cut_tok {H0 : List AObj} (n m : Nat) (T : TypeId) (L : List AObj) : CutOk (H0 ++ [.tok n T]) (H0 ++ (.tok m T :: L)) := ⟨by simp, fun i x hi hx => by
  rw [List.length_append] at hi
  by_cases h : i < H0.length
  · rw [List.getElem?_append_left h] at hx ⊢; exact .inl hx
  · obtain rfl : i = H0.length := by simp at hi; omega
    rw [hp_get0] at hx
    obtain rfl := Option.some.inj hx
    exact .inr trivial⟩
theorem take_tok (H0 : List AObj) (o : AObj) (L : List AObj) : (H0 ++ (o :: L)).take (H0.length + 1) = H0 ++ [o] := by
  rw [show H0 ++ (o :: L) = (H0 ++ [o]) ++ L by simp, show H0.length + 1 = (H0 ++ [o]).length by simp, List.take_left]
theorem ap_ownL {α : Type} {row : α → List AV} {l : List α} {x : α} {r : List AV} {sz bytes : Nat} {e : TypeId} (H L : List AObj) (h1 : r.length = sz) (h2 : r.all AV.cell = true) (h3 : r.map AV.strip = row x)
    (hl : (l.length + 1) * bytes ≤ 140737488355328) (hl2 : l.length + 1 ≤ 4611686018427387904) :
    rap false (H ++ (.tok (l.length * sz) e :: L)) e sz bytes false (.slice (.own H.length) sz (l.map row)) (.slice .full sz [r]) = some (.slice (.own H.length) sz ((l ++ [x]).map row), H ++ (.tok ((l ++ [x]).length * sz) e :: L)) := by
  simp only [rap, rapp, rsrc, List.length_map, List.length_cons, List.length_nil, Nat.zero_add, or_true, if_true, hl, hl2, rowsOk_one h1 h2, and_true, true_and, hp_get0, List.getElem?_cons_zero, hp_set0, List.set_cons_zero, List.map_cons, List.map_nil, h3, List.map_append, List.length_append, Nat.add_mul, Nat.one_mul]
  rw [Nat.add_mul, Nat.one_mul] at hl
  rw [if_pos hl]
theorem pcs_wk (n : Nat) (l : List Piece) : RowsWk n (l.map Piece.row) := by
  rw [rowsWk_map]; exact fun _ _ => ⟨wk_int _ _ _, wk_str _ _, wk_bool _ _, trivial⟩
theorem rr1 (hB : BasE E) (hS : StrE E) {s : Str} (hs : s.length ≤ 65536) {H0 : List AObj} {k : List Fra}
    (hk : ∀ out : List Piece, out.length ≤ 65536 → (∀ x ∈ out, x.text.length ≤ 65536) → M.go a_truchmanref01_Read H0 k (kv [(4, .slice (.own H0.length) 3 (out.map Piece.row))]) (H0 ++ [.tok (out.length * 3) t_api_Piece]) = some (.ret (rdV (some out)), H0)) :
    ∀ (n i : Nat) (out : List Piece), s.length - i < n → i ≤ s.length → out.length ≤ i → (∀ x ∈ out, x.text.length ≤ 65536) →
    M.go a_truchmanref01_Read H0 (.c l_truchmanref01_Read_1 :: .lp ⟨some [0, 4, 5], [(4, 3, t_api_Piece)], true⟩ l_truchmanref01_Read_1 (H0 ++ [.tok (out.length * 3) t_api_Piece]) :: .blk 0 :: .c (.lv [4]) :: k) (kv [(0, .str s), (4, .slice (.own H0.length) 3 (out.map Piece.row)), (5, .int .i64 i)]) (H0 ++ [.tok (out.length * 3) t_api_Piece]) =
      some (.ret (rdV (rdR n (s.drop i) out)), H0) := by
  intro n
  induction n with
  | zero => intro i out h; omega
  | succ n IH =>
    intro i out h hi hol hot
    rw [rdR.eq_def]
    dsimp only
    cases hsd : s.drop i with
    | nil =>
      have hil : i = s.length := by have := congrArg List.length hsd; simp at this; omega
      subst hil
      have hk1 := hk out (by omega) hot
      simp only [kv_cons, kv_nil] at hk1
      dsimp only
      rw [go_head M l_truchmanref01_Read_1.eq_1]
      simp (maxSteps := 3000000) (maxDischargeDepth := 6) +contextual -implicitDefEqProofs only [amC M, ↓amD, Nat.reduceBEq, Nat.reduceAdd, env, fargs, q_truchmanref01_Read, Nat.lt_irrefl, hk1]
    | cons c t =>
      have hlt : i < s.length := by have := congrArg List.length hsd; simp at this; omega
      have hx : s[i]? = some c := by rw [← List.head?_drop, hsd]; rfl
      have hlen : (c :: t).length = s.length - i := by rw [← hsd, List.length_drop]
      dsimp only
      cases htag : (c == 60) || (c == 123) with
      | true =>
        rw [sel_true, refO]
        have hu62 := fun H => run_upTo M hS (s := s) (by simp only [maxL]; omega) (i := i) (by omega) 62 H
        have hu125 := fun H => run_upTo M hS (s := s) (by simp only [maxL]; omega) (i := i) (by omega) 125 H
        rw [hsd] at hu62 hu125
        rw [show (((62 : UInt8).toNat : Nat) : Int) = 62 from rfl] at hu62
        rw [show (((125 : UInt8).toNat : Nat) : Int) = 125 from rfl] at hu125
        have hcond : (c == 60) = false → (c == 123) = true := fun h => by rw [h] at htag; simpa using htag
        have h6 : (c == 123) = false → (c == 60) = true := fun h => by rw [h] at htag; simpa using htag
        have gk : ∀ L : List AObj, (H0 ++ L)[H0.length + 1]? = L[1]? := fun L => hp_getk H0 L 1
        have sk : ∀ (L : List AObj) (x : AObj), (H0 ++ L).set (H0.length + 1) x = H0 ++ L.set 1 x := fun L x => hp_setk H0 L 1 x
        rcases idxI_from (p := fun d => d == endC c) (c :: t) i 0 with ⟨h1, h2⟩ | ⟨j, hj, h1, h2⟩
        · rw [h2, show decide ((-1 : Int) < 0) = true from rfl, sel_true]
          simp only [rdV]
          cases h123 : c == 123 with
          | true =>
            have hec : endC c = 125 := by rw [endC, h123]; rfl
            rw [hec] at h1
            rw [h1] at hu125
            rw [go_head M l_truchmanref01_Read_1.eq_1]
            simp (maxSteps := 3000000) (maxDischargeDepth := 6) +contextual -implicitDefEqProofs only [amC M, ↓amD, Nat.reduceBEq, Nat.reduceAdd, env, fargs, q_truchmanref01_Read, hlt, hx, qB, h123, hcond, hu62, hu125, (show decide ((-1 : Int) < 0) = true from rfl), cut_app, hp_take, badA, rowsWk_nil]
            try rfl
          | false =>
            have hec : endC c = 62 := by rw [endC, h123]; rfl
            rw [hec] at h1
            rw [h1] at hu62
            rw [go_head M l_truchmanref01_Read_1.eq_1]
            simp (maxSteps := 3000000) (maxDischargeDepth := 6) +contextual -implicitDefEqProofs only [amC M, ↓amD, Nat.reduceBEq, Nat.reduceAdd, env, fargs, q_truchmanref01_Read, hlt, hx, qB, h123, h6 h123, hu62, (show decide ((-1 : Int) < 0) = true from rfl), cut_app, hp_take, badA, rowsWk_nil]
            try rfl
        · rw [h2, Nat.zero_add, show decide (((j : Nat) : Int) < 0) = false from decide_eq_false (by omega), sel_false, show ((j : Nat) : Int).toNat = j from rfl]
          have hj2 : j < s.length - i := by rw [← hlen]; exact hj
          have hw1 : IntKind.i64.wrap (((i + j : Nat) : Int) + 1) = ((i + j + 1 : Nat) : Int) := by rw [wrap_i64 (by omega) (by omega)]; omega
          have hsl : rsls (.str s) (some (.int .i64 (i : Int))) (some (.int .i64 ((i + j + 1 : Nat) : Int))) = some (.str ((c :: t).take (j + 1))) := by
            rw [sls_both (by omega) (by omega), hsd, show i + j + 1 - i = j + 1 by omega]
          have hneg : decide (((i + j : Nat) : Int) < 0) = false := decide_eq_false (by omega)
          have hsegl : ((c :: t).take (j + 1)).length ≤ 70368744177664 := by rw [List.length_take]; omega
          have hrm := fun H => run_rmarked M hB hS hsegl H
          have hdm : (c :: t).drop (j + 1) = s.drop (i + j + 1) := by rw [← hsd, List.drop_drop]; rfl
          have hV := fun h => rmk_V (s := (c :: t).take (j + 1)) h
          generalize hrr : rmk ((c :: t).take (j + 1)) = rr at *
          obtain ⟨pc, ok⟩ := rr
          simp only [rmkV] at hrm
          cases ok with
          | false =>
            simp only [sel_false, rdV]
            cases h123 : c == 123 with
            | true =>
              have hec : endC c = 125 := by rw [endC, h123]; rfl
              rw [hec] at h1
              rw [h1] at hu125
              rw [go_head M l_truchmanref01_Read_1.eq_1]
              simp (maxSteps := 3000000) (maxDischargeDepth := 6) +contextual -implicitDefEqProofs only [amC M, ↓amD, Nat.reduceBEq, Nat.reduceAdd, env, fargs, q_truchmanref01_Read, amG, AV.cell, Nat.reduceMul, Nat.reduceLeDiff, hlt, hx, qB, h123, hcond, hu62, hu125, hneg, hw1, hsl, hrm, aextract, List.getElem?_cons_succ, qPiece, gk, sk, List.set_cons_succ, cut_app, hp_take, badA, rowsWk_nil]
              try rfl
            | false =>
              have hec : endC c = 62 := by rw [endC, h123]; rfl
              rw [hec] at h1
              rw [h1] at hu62
              rw [go_head M l_truchmanref01_Read_1.eq_1]
              simp (maxSteps := 3000000) (maxDischargeDepth := 6) +contextual -implicitDefEqProofs only [amC M, ↓amD, Nat.reduceBEq, Nat.reduceAdd, env, fargs, q_truchmanref01_Read, amG, AV.cell, Nat.reduceMul, Nat.reduceLeDiff, hlt, hx, qB, h123, h6 h123, hu62, hneg, hw1, hsl, hrm, aextract, List.getElem?_cons_succ, qPiece, gk, sk, List.set_cons_succ, cut_app, hp_take, badA, rowsWk_nil]
              try rfl
          | true =>
            simp only [sel_true]
            have hVt := hV rfl
            have hpl : pc.text.length ≤ 65536 := by
              have := wr_text_len pc
              have h9 := hVt.len
              dsimp only at h9
              rw [List.length_take] at h9
              omega
            have hap := ap_ownL (row := Piece.row) (l := out) (x := pc) (r := pc.row) (sz := 3) (bytes := 32) (e := t_api_Piece) H0 [.cells pc.row t_api_Piece] rfl rfl rfl (by omega) (by omega)
            have ih := IH (i + j + 1) (out ++ [pc]) (by omega) (by omega) (by simp; omega) (fun x hx => by
              rcases List.mem_append.1 hx with hx | hx
              · exact hot x hx
              · simp at hx; subst hx; exact hpl)
            rw [hdm]
            simp only [kv_cons, kv_nil] at ih
            have hwo : Wk (H0.length + 1) (.slice (.own H0.length) 3 ((out ++ [pc]).map Piece.row)) (.slice (.own H0.length) 3 ((out ++ [pc]).map Piece.row)) := wk_slice (show H0.length < H0.length + 1 by omega) (pcs_wk _ _)
            cases h123 : c == 123 with
            | true =>
              have hec : endC c = 125 := by rw [endC, h123]; rfl
              rw [hec] at h1
              rw [h1] at hu125
              rw [go_head M l_truchmanref01_Read_1.eq_1]
              simp (maxSteps := 3000000) (maxDischargeDepth := 6) +contextual -implicitDefEqProofs only [amC M, ↓amD, Nat.reduceBEq, Nat.reduceAdd, env, fargs, q_truchmanref01_Read, amG, AV.cell, Nat.reduceMul, Nat.reduceLeDiff, hlt, hx, qB, h123, hcond, hu62, hu125, hneg, hw1, hsl, hrm, aextract, List.getElem?_cons_succ, qPiece, gk, sk, List.set_cons_succ, hap, cut_tok, take_tok, hwo, ih]
            | false =>
              have hec : endC c = 62 := by rw [endC, h123]; rfl
              rw [hec] at h1
              rw [h1] at hu62
              rw [go_head M l_truchmanref01_Read_1.eq_1]
              simp (maxSteps := 3000000) (maxDischargeDepth := 6) +contextual -implicitDefEqProofs only [amC M, ↓amD, Nat.reduceBEq, Nat.reduceAdd, env, fargs, q_truchmanref01_Read, amG, AV.cell, Nat.reduceMul, Nat.reduceLeDiff, hlt, hx, qB, h123, h6 h123, hu62, hneg, hw1, hsl, hrm, aextract, List.getElem?_cons_succ, qPiece, gk, sk, List.set_cons_succ, hap, cut_tok, take_tok, hwo, ih]
      | false =>
        have h60 : (c == 60) = false := by simp at htag ⊢; exact htag.1
        have h123 : (c == 123) = false := by simp at htag ⊢; exact htag.2
        rw [sel_false]
        have hin := fun k He => rr0 M hs (H0 := H0) (G := H0 ++ [.tok (out.length * 3) t_api_Piece]) (cut_app H0 _) (hp_take H0 _) (tg := .own H0.length) (rows := out.map Piece.row) k ((c :: t).length + 1) i [] He (by omega) (by omega) (by simp)
        rw [hsd] at hin
        cases hch : chunkF ((c :: t).length + 1) (c :: t) with
        | none =>
          rw [hch] at hin
          simp only [kv_cons, kv_nil, rdV] at hin ⊢
          rw [go_head M l_truchmanref01_Read_1.eq_1]
          simp (maxSteps := 3000000) (maxDischargeDepth := 6) +contextual -implicitDefEqProofs only [amC M, ↓amD, Nat.reduceBEq, Nat.reduceAdd, env, fargs, q_truchmanref01_Read, hlt, hx, qB, h60, h123, hin]
          try rfl
        | some r =>
          obtain ⟨v, m⟩ := r
          rw [hch] at hin
          simp only [kv_cons, kv_nil, List.nil_append] at hin ⊢
          obtain ⟨hm1, hm2⟩ := chunkF_le _ _ _ _ hch
          have hvl : v.length ≤ 70368744177664 := by omega
          have hT := fun H => run_Text M hB hvl H
          cases htx : textF v with
          | false =>
            rw [htx] at hT
            simp only [sel_false, rdV]
            rw [go_head M l_truchmanref01_Read_1.eq_1]
            simp (maxSteps := 3000000) (maxDischargeDepth := 6) +contextual -implicitDefEqProofs only [amC M, ↓amD, Nat.reduceBEq, Nat.reduceAdd, env, fargs, q_truchmanref01_Read, hlt, hx, qB, h60, h123, hin, hT, cut_app, hp_take, badA, rowsWk_nil]
            try rfl
          | true =>
            rw [htx] at hT
            rw [sel_true]
            have hap := ap_ownL (row := Piece.row) (l := out) (x := ⟨1, v, false⟩) (r := [.int .u8 1, .str v, .bool false]) (sz := 3) (bytes := 32) (e := t_api_Piece) H0 [] rfl rfl rfl (by omega) (by omega)
            have hdm : (c :: t).drop m = s.drop (i + m) := by rw [← hsd, List.drop_drop]
            obtain ⟨hm3, _⟩ := chunkF_pos htag hch
            have ih := IH (i + m) (out ++ [⟨1, v, false⟩]) (by omega) (by omega) (by simp; omega) (fun x hx => by
              rcases List.mem_append.1 hx with hx | hx
              · exact hot x hx
              · simp at hx; subst hx; dsimp only; omega)
            rw [hdm]
            simp only [kv_cons, kv_nil] at ih
            have hwo : Wk (H0.length + 1) (.slice (.own H0.length) 3 ((out ++ [(⟨1, v, false⟩ : Piece)]).map Piece.row)) (.slice (.own H0.length) 3 ((out ++ [(⟨1, v, false⟩ : Piece)]).map Piece.row)) := wk_slice (show H0.length < H0.length + 1 by omega) (pcs_wk _ _)
            rw [go_head M l_truchmanref01_Read_1.eq_1]
            simp (maxSteps := 3000000) (maxDischargeDepth := 6) +contextual -implicitDefEqProofs only [amC M, ↓amD, Nat.reduceBEq, Nat.reduceAdd, env, fargs, q_truchmanref01_Read, amG, AV.cell, Nat.reduceMul, Nat.reduceLeDiff, hlt, hx, qB, h60, h123, hin, hT, hap, cut_tok, take_tok, hwo, ih]

def rreadV (s : Str) : AV := sel (decide ((65536 : Int) < (s.length : Int))) (.tuple [.slice .any 3 [], .int .u8 3]) (rdV (rdR (s.length + 1) s []))
theorem run_rRead (hB : BasE E) (hS : StrE E) {s : Str} (H : List AObj) : M.run f_truchmanref01_Read [.str s] H = some (.ret (rreadV s), H) := by
  rw [run_c M hS.truchmanref01_Read rfl (c := c_truchmanref01_Read) rfl, c_truchmanref01_Read]
  unfold rreadV
  cases h6 : decide ((65536 : Int) < (s.length : Int)) with
  | true => simp (maxSteps := 3000000) (maxDischargeDepth := 6) +contextual -implicitDefEqProofs only [amC M, ↓amD, Nat.reduceBEq, Nat.reduceAdd, env, fargs, q_truchmanref01_Read, h6, cut_refl, hp_self, rowsWk_nil, (show anyV (.tuple [.slice .nil 3 [], .int .u8 3]) = .tuple [.slice .any 3 [], .int .u8 3] from rfl)]
  | false =>
    have hsl : s.length ≤ 65536 := by have := of_decide_eq_false h6; omega
    have hl := fun k hk => rr1 M hB hS hsl (H0 := H) (k := k) hk (s.length + 1) 0 [] (by omega) (by omega) (by simp) (fun x hx => by cases hx)
    simp only [kv_cons, kv_nil, Int.ofNat_zero, List.drop_zero, List.map_nil, List.length_nil, Nat.zero_mul] at hl
    rw [sel_false]
    simp (maxSteps := 3000000) (maxDischargeDepth := 6) +contextual -implicitDefEqProofs only [amC M, ↓amD, Nat.reduceBEq, Nat.reduceAdd, env, fargs, q_truchmanref01_Read, amG, AV.cell, Nat.reduceMul, Nat.reduceLeDiff, h6]
    refine hl _ fun out hol hot => ?_
    have hCP := fun H2 => run_rCheckPieces M hB (l := ⟨.own H.length, out⟩) (by dsimp only; omega) (fun x hx => by have := hot x hx; omega) H2
    dsimp only at hCP
    simp only [rdV]
    cases hz : checkP out == 0 with
    | false =>
      have e2 : ∀ n : Int, anyV (.tuple [.slice .nil 3 [], .int .u8 n]) = .tuple [.slice .any 3 [], .int .u8 n] := fun _ => rfl
      simp (maxSteps := 3000000) (maxDischargeDepth := 6) +contextual -implicitDefEqProofs only [amC M, ↓amD, Nat.reduceBEq, Nat.reduceAdd, env, fargs, q_truchmanref01_Read, hCP, hz, cut_app, hp_take, rowsWk_nil, e2]
    | true =>
      have e2 : anyV (.tuple [.slice (.own H.length) 3 (out.map Piece.row), .int .u8 0]) = .tuple [.slice .any 3 (out.map Piece.row), .int .u8 0] := rfl
      have hwa : Wk H.length (.slice (.own H.length) 3 (out.map Piece.row)) (.slice .any 3 (out.map Piece.row)) := wk_any (pcs_wk _ _)
      simp (maxSteps := 3000000) (maxDischargeDepth := 6) +contextual -implicitDefEqProofs only [amC M, ↓amD, Nat.reduceBEq, Nat.reduceAdd, env, fargs, q_truchmanref01_Read, hCP, hz, cut_app, hp_take, e2, hwa]
end Go.Am
end

section
set_option linter.unusedSimpArgs false
set_option linter.unusedVariables false
set_option maxHeartbeats 1000000
namespace Go.Am
open Go.RowKit

/-! Both ways to read a text are one -/
theorem mkO_pos {s : Str} {p : Piece} {m : Nat} (h : mkO s = some (p, m)) : 1 ≤ m := by
  have hV := mkO_V h
  obtain ⟨c, w, hw, _⟩ := wr_shape hV.name hV.kind
  have := hV.len
  rw [hw] at this
  simp at this
  omega
theorem rdP_nil (n : Nat) (w : Str) (out : List Piece) : rdP (n + 1) [] w out = sel (textF w) (some (out ++ flushP w)) none := by
  rw [rdP.eq_def]
theorem rdP_tag {n : Nat} {c : UInt8} {t w : Str} {out : List Piece} (h : ((c == 60) || (c == 123)) = true) : rdP (n + 1) (c :: t) w out = (match mkO (c :: t) with
    | none => none
    | some (p, m) => sel (textF w) (rdP n ((c :: t).drop m) [] (out ++ flushP w ++ [p])) none) := by
  have h92 : (c == 92) = false := by
    rcases Bool.or_eq_true _ _ ▸ h with h | h <;> (have := eq_of_beq h; subst this; rfl)
  rw [rdP.eq_def]
  dsimp only
  rw [h92, sel_false, h, sel_true] <;> rfl
theorem rdP_fuel : ∀ (n n' : Nat) (s w : Str) (out : List Piece), s.length < n → s.length < n' → rdP n s w out = rdP n' s w out
  | 0, _, s, _, _, h, _ => absurd h (Nat.not_lt_zero _)
  | _ + 1, 0, s, _, _, _, h => absurd h (Nat.not_lt_zero _)
  | n + 1, n' + 1, s, w, out, h, h' => by
    rw [rdP.eq_def, rdP.eq_def (n' + 1)]
    dsimp only
    cases s with
    | nil => rfl
    | cons c t =>
      simp only [List.length_cons] at h h'
      dsimp only
      cases h92 : c == 92 with
      | true =>
        simp only [sel_true]
        cases t with
        | nil => rfl
        | cons d t' =>
          simp only [List.length_cons] at h h'
          dsimp only
          rw [rdP_fuel n n' t' (w ++ [d]) out (by omega) (by omega)]
      | false =>
        simp only [sel_false]
        cases htag : (c == 60) || (c == 123) with
        | true =>
          simp only [sel_true]
          cases hm : mkO (c :: t) with
          | none => rfl
          | some q =>
            obtain ⟨p, m⟩ := q
            have := mkO_pos hm
            dsimp only
            rw [rdP_fuel n n' ((c :: t).drop m) [] _ (by rw [List.length_drop, List.length_cons]; omega) (by rw [List.length_drop, List.length_cons]; omega)]
        | false =>
          simp only [sel_false]
          rw [rdP_fuel n n' t (w ++ [c]) out (by omega) (by omega)]
theorem rdR_fuel : ∀ (n n' : Nat) (s : Str) (out : List Piece), s.length < n → s.length < n' → rdR n s out = rdR n' s out
  | 0, _, s, _, h, _ => absurd h (Nat.not_lt_zero _)
  | _ + 1, 0, s, _, _, h => absurd h (Nat.not_lt_zero _)
  | n + 1, n' + 1, s, out, h, h' => by
    rw [rdR.eq_def, rdR.eq_def (n' + 1)]
    dsimp only
    cases s with
    | nil => rfl
    | cons c t =>
      simp only [List.length_cons] at h h'
      dsimp only
      cases htag : (c == 60) || (c == 123) with
      | true =>
        simp only [sel_true]
        rw [ref_mk]
        cases hm : mkO (c :: t) with
        | none => rfl
        | some q =>
          obtain ⟨p, m⟩ := q
          have := mkO_pos hm
          dsimp only
          rw [rdR_fuel n n' ((c :: t).drop m) _ (by rw [List.length_drop, List.length_cons]; omega) (by rw [List.length_drop, List.length_cons]; omega)]
      | false =>
        simp only [sel_false]
        cases hc : chunkF ((c :: t).length + 1) (c :: t) with
        | none => rfl
        | some q =>
          obtain ⟨v, m⟩ := q
          have := (chunkF_pos htag hc).1
          dsimp only
          rw [rdR_fuel n n' ((c :: t).drop m) _ (by rw [List.length_drop, List.length_cons]; omega) (by rw [List.length_drop, List.length_cons]; omega)]
/-- What is no tag is gathered. -/
theorem rdP_chunk : ∀ (k n : Nat) (s w : Str) (out : List Piece), s.length < k → s.length < n →
    match chunkF k s with
    | none => rdP n s w out = none
    | some (v, m) => rdP n s w out = rdP (s.length - m + 1) (s.drop m) (w ++ v) out ∧ (s.drop m = [] ∨ ∃ d u, s.drop m = d :: u ∧ ((d == 60) || (d == 123)) = true)
  | 0, _, _, _, _, h, _ => absurd h (Nat.not_lt_zero _)
  | _ + 1, 0, _, _, _, _, h => absurd h (Nat.not_lt_zero _)
  | k + 1, n + 1, s, w, out, hk, hn => by
    rw [chunkF.eq_def]
    dsimp only
    cases s with
    | nil =>
      dsimp only
      rw [List.append_nil]
      exact ⟨rdP_fuel _ _ _ _ _ hn (by simp), .inl rfl⟩
    | cons c t =>
      dsimp only
      cases htag : (c == 60) || (c == 123) with
      | true =>
        rw [sel_true]
        dsimp only
        rw [List.append_nil, List.drop_zero]
        exact ⟨rdP_fuel _ _ _ _ _ hn (by omega), .inr ⟨c, t, rfl, htag⟩⟩
      | false =>
        rw [sel_false]
        simp only [List.length_cons] at hk hn
        cases h92 : c == 92 with
        | true =>
          rw [sel_true, rdP.eq_def]
          dsimp only
          rw [h92, sel_true]
          cases t with
          | nil => rfl
          | cons d t' =>
            dsimp only
            simp only [List.length_cons] at hk hn
            cases hesc : (d == 92) || (d == 60) || (d == 123) with
            | false => rfl
            | true =>
              simp only [sel_true]
              have ih := rdP_chunk k n t' (w ++ [d]) out (by omega) (by omega)
              cases hc : chunkF k t' with
              | none => rw [hc] at ih; exact ih
              | some r =>
                obtain ⟨v, m⟩ := r
                rw [hc] at ih
                simp only [Option.map_some]
                have hml := (chunkF_le _ _ _ _ hc).1
                rw [ih.1, List.append_assoc, List.singleton_append]
                refine ⟨?_, by simpa using ih.2⟩
                rw [show (c :: d :: t').drop (m + 2) = t'.drop m by simp]
                exact rdP_fuel _ _ _ _ _ (by rw [List.length_drop]; omega) (by rw [List.length_drop]; simp only [List.length_cons]; omega)
        | false =>
          rw [sel_false, rdP.eq_def]
          dsimp only
          rw [h92, sel_false, htag, sel_false]
          have ih := rdP_chunk k n t (w ++ [c]) out (by omega) (by omega)
          cases hc : chunkF k t with
          | none => rw [hc] at ih; exact ih
          | some r =>
            obtain ⟨v, m⟩ := r
            rw [hc] at ih
            simp only [Option.map_some]
            have hml := (chunkF_le _ _ _ _ hc).1
            rw [ih.1, List.append_assoc, List.singleton_append]
            refine ⟨?_, by simpa using ih.2⟩
            rw [show (c :: t).drop (m + 1) = t.drop m by simp]
            exact rdP_fuel _ _ _ _ _ (by rw [List.length_drop]; omega) (by rw [List.length_drop]; simp only [List.length_cons]; omega)
theorem rd_same : ∀ (L : Nat) (s : Str) (out : List Piece), s.length ≤ L → rdP (s.length + 1) s [] out = rdR (s.length + 1) s out
  | L, [], out, _ => by rw [rdP_nil, rdR.eq_def]; simp [textF_nil, flushP, sel]
  | 0, c :: t, _, h => by simp at h
  | L + 1, c :: t, out, h => by
    simp only [List.length_cons] at h
    cases htag : (c == 60) || (c == 123) with
    | true =>
      rw [rdP_tag htag, rdR.eq_def]
      dsimp only
      rw [htag, sel_true, ref_mk]
      cases hm : mkO (c :: t) with
      | none => rfl
      | some q =>
        obtain ⟨p, m⟩ := q
        have h1 := mkO_pos hm
        have hl : ((c :: t).drop m).length ≤ L := by rw [List.length_drop, List.length_cons]; omega
        dsimp only
        rw [textF_nil, sel_true, show flushP [] = [] from rfl, List.append_nil, rdP_fuel _ (((c :: t).drop m).length + 1) _ _ _ (by rw [List.length_drop, List.length_cons]; omega) (by omega), rd_same L _ _ hl,
          rdR_fuel _ (c :: t).length _ _ (by omega) (by rw [List.length_drop, List.length_cons]; omega)]
    | false =>
      have hch := rdP_chunk ((c :: t).length + 1) ((c :: t).length + 1) (c :: t) [] out (by omega) (by omega)
      rw [rdR.eq_def]
      dsimp only
      rw [htag, sel_false]
      cases hc : chunkF ((c :: t).length + 1) (c :: t) with
      | none => rw [hc] at hch; exact hch
      | some q =>
        obtain ⟨v, m⟩ := q
        rw [hc] at hch
        dsimp only at hch ⊢
        rw [List.nil_append] at hch
        obtain ⟨hm1, hv⟩ := chunkF_pos htag hc
        have hml := (chunkF_le _ _ _ _ hc).1
        have hfl : flushP v = [⟨1, v, false⟩] := by rw [flush_eq, if_neg hv]
        rw [hch.1]
        rcases hch.2 with h2 | ⟨d, u, h2, h3⟩
        · rw [h2, rdP_nil, hfl]
          cases textF v with
          | false => rfl
          | true => simp only [sel_true]; simp [rdR]
        · rw [h2, rdP_tag h3, hfl]
          have hlu : (d :: u).length + m = (c :: t).length := by rw [← h2, List.length_drop]; omega
          cases htx : textF v with
          | false =>
            simp only [sel_false]
            cases mkO (d :: u) <;> rfl
          | true =>
            simp only [sel_true]
            simp only [List.length_cons] at hlu ⊢
            obtain ⟨k, hk⟩ : ∃ k, t.length + 1 = k + 1 := ⟨t.length, rfl⟩
            rw [hk, rdR.eq_def]
            dsimp only
            rw [h3, sel_true, ref_mk]
            cases hm : mkO (d :: u) with
            | none => rfl
            | some q =>
              obtain ⟨p, m'⟩ := q
              have h5 := mkO_pos hm
              have hl : ((d :: u).drop m').length ≤ L := by rw [List.length_drop, List.length_cons]; omega
              dsimp only
              rw [rdP_fuel _ (((d :: u).drop m').length + 1) _ _ _ (by rw [List.length_drop, List.length_cons]; omega) (by omega), rd_same L _ _ hl,
                rdR_fuel _ k _ _ (by omega) (by rw [List.length_drop, List.length_cons]; omega)]
theorem read_same (s : Str) : rreadV s = readV s := by
  unfold rreadV readV readF
  rw [rd_same s.length s [] (Nat.le_refl _)]
end Go.Am
end

section
set_option linter.unusedSimpArgs false
set_option linter.unusedVariables false
set_option maxRecDepth 100000
set_option maxHeartbeats 4000000
namespace Go.Am
open Go.RowKit
attribute [local congr] dsel_congr sel_c1 slc_cong gsel_congr go_congr aft_congr aftD_congr condR_congr backR_congr inR_congr at2_congr
variable {E : REnv} (M : Mach cdec E)

structure ReadsE (E : REnv) : Prop where
  truchmanlaw01_DocsReads : E.fn f_truchmanlaw01_DocsReads = some a_truchmanlaw01_DocsReads
theorem req_piece (x y : Piece) : req (.st [(0, .int .u8), (1, .str), (2, .bool)]) (.agg x.row) (.agg y.row) = some ((x.kind == y.kind) && (x.text == y.text) && (x.car == y.car)) := by
  simp only [req, reqFields, Piece.row, List.getElem?_cons_zero, List.getElem?_cons_succ, reqCell]
  cases x.kind == y.kind <;> simp
  cases x.text == y.text <;> simp
  cases x.car == y.car <;> rfl
theorem spl {H H0 : List AObj} {l : List Piece} {ta tb : Tag} (hl : l.length ≤ maxL) (hc : CutOk H0 H) (k : List Fra) : ∀ (n i : Nat) (He : List AObj), i + n = l.length →
    M.go a_truchmanref01_SamePieces H0 (.c l_truchmanref01_SamePieces_0 :: .lp ⟨(some [0, 1, 5]), [], false⟩ l_truchmanref01_SamePieces_0 He :: .blk 0 :: .c (.lv []) :: k) (kv [(0, .slice ta 3 (l.map Piece.row)), (1, .slice tb 3 (l.map Piece.row)), (5, .int .i64 i)]) H =
      (M.go a_truchmanref01_SamePieces H0 k .leaf H)
  | 0, i, He, h => by
    have e : i = l.length := by omega
    subst e
    rw [go_head M l_truchmanref01_SamePieces_0.eq_1]
    simp (maxSteps := 3000000) (maxDischargeDepth := 6) +contextual -implicitDefEqProofs only [amC M, ↓amD, Nat.reduceBEq, Nat.reduceAdd, env, fargs, q_truchmanref01_SamePieces, Nat.lt_irrefl, List.drop_length]
  | n + 1, i, He, h => by
    have hi : i < l.length := by omega
    have hx : l[i]? = some l[i] := List.getElem?_eq_getElem hi
    have hd : (l.drop i) = l[i] :: l.drop (i + 1) := List.drop_eq_getElem_cons hi
    have hm : l[i] ∈ l := List.getElem_mem hi
    have ih := fun He => spl (H := H) (H0 := H0) (l := l) (ta := ta) (tb := tb) (hl := hl) hc k n (i + 1)  He (by omega)
    simp only [kv_cons, kv_nil] at ih
    rw [go_head M l_truchmanref01_SamePieces_0.eq_1]
    simp (maxSteps := 3000000) (maxDischargeDepth := 6) +contextual -implicitDefEqProofs only [amC M, ↓amD, Nat.reduceBEq, Nat.reduceAdd, env, fargs, q_truchmanref01_SamePieces, hx, hd, hi, ih, wrap_s hi hl, ias_row hi, qPiece, req_piece, beq_self_eq_true]
theorem run_SamePieces (hB : BasE E) {l : List Piece} {ta tb : Tag} (hl : l.length ≤ maxL) (H : List AObj) : M.run f_truchmanref01_SamePieces [.slice ta 3 (l.map Piece.row), .slice tb 3 (l.map Piece.row)] H = some (.ret (.bool true), H) := by
  rw [run_c M hB.truchmanref01_SamePieces rfl (c := c_truchmanref01_SamePieces) rfl, c_truchmanref01_SamePieces]
  have h1 := fun k He => spl M (ta := ta) (tb := tb) hl (cut_refl H) k l.length 0 He (by omega)
  simp only [kv_cons, kv_nil, Int.ofNat_zero] at h1
  simp (maxSteps := 3000000) (maxDischargeDepth := 6) +contextual -implicitDefEqProofs only [amC M, ↓amD, Nat.reduceBEq, Nat.reduceAdd, env, fargs, q_truchmanref01_SamePieces, beq_self_eq_true, h1]
theorem checkP_len {l : List Piece} (h : checkP l = 0) : l.length ≤ 512 := by
  unfold checkP at h
  cases hb : decide ((512 : Int) < (l.length : Int)) with
  | true => rw [hb] at h; cases h
  | false => have := of_decide_eq_false hb; omega
theorem readV_shape (s : Str) : ∃ (l : List Piece) (e : Int), readV s = .tuple [.slice .any 3 (l.map Piece.row), .int .u8 e] ∧ l.length ≤ maxL := by
  unfold readV
  cases decide ((65536 : Int) < (s.length : Int)) with
  | true => exact ⟨[], 3, rfl, by simp⟩
  | false =>
    rw [sel_false]
    cases readF s with
    | none => exact ⟨[], 4, rfl, by simp⟩
    | some out =>
      simp only [rdV]
      cases hz : checkP out == 0 with
      | false => exact ⟨[], _, rfl, by simp⟩
      | true => exact ⟨out, 0, rfl, by have := checkP_len (by simpa using hz); simp only [maxL]; omega⟩
theorem run_DocsReads (hB : BasE E) (hS : StrE E) (hC : BldE E) (hX : ExtE M) (hD : ExtD M) (hR : E.fn f_strings_Builder_Reset = some a_strings_Builder_Reset) (hQ : ReadsE E) {s : Str} (hs : s.length ≤ maxL) {H : List AObj}
    (hL : ∀ H, M.run f_truchmanlaw01_reads [] H = some (.ret (.bool true), H)) : M.run f_truchmanlaw01_DocsReads [.str s] H = some (.ret (.bool true), H) := by
  obtain ⟨l, e, h1, h2⟩ := readV_shape s
  have r1 := fun H => run_Read M hB hS hC hX hD hR (s := s) H hs
  have r2 := fun H => run_rRead M hB hS (s := s) H
  rw [h1] at r1
  rw [read_same, h1] at r2
  have sp := fun H => run_SamePieces M hB (l := l) (ta := .any) (tb := .any) h2 H
  rw [run_c M hQ.truchmanlaw01_DocsReads rfl (c := c_truchmanlaw01_DocsReads) rfl, c_truchmanlaw01_DocsReads]
  cases h25 : decide ((2500 : Int) < (s.length : Int)) with
  | true => simp (maxSteps := 3000000) (maxDischargeDepth := 6) +contextual -implicitDefEqProofs only [amC M, ↓amD, Nat.reduceBEq, Nat.reduceAdd, env, fargs, q_truchmanlaw01_DocsReads, h25, hL]
  | false => simp (maxSteps := 3000000) (maxDischargeDepth := 6) +contextual -implicitDefEqProofs only [amC M, ↓amD, Nat.reduceBEq, Nat.reduceAdd, env, fargs, q_truchmanlaw01_DocsReads, h25, hL, r1, r2, sp, aextract, List.getElem?_cons_succ, beq_self_eq_true]
end Go.Am
end

section
set_option maxRecDepth 100000
set_option linter.unusedVariables false
namespace Go.Am
open Go.RowKit Go.ChangeShapes Go.WideShapes

structure TypesOk (P : Program) : Prop where
  u_string : P.underlying t_string = some .string
  c_string : P.cellsOf t_string = 1
section
variable {P : Program} {W : World} {G : Nat → Option (List AV)}

end
end Go.Am
end

section
set_option maxRecDepth 1000000
set_option linter.unusedVariables false
namespace Go.Am
open Go.Shelf Go.RowKit Go.Lib Go.Proofs

def utfLay_ren : Go.Shelf.Ren := ⟨fun | 197 => 44 | 260 => 82 | n => n, fun | 9 => 9 | 21 => 21 | 3 => 3 | 4 => 4 | 5 => 5 | 105 => 90 | 119 => 168 | 0 => 0 | 46 => 169 | 139 => 172 | 138 => 171 | n => n, fun | 3 => 0 | 4 => 1 | n => n⟩
theorem utfLay : Go.Proofs.Lays.n197 Tryz.prog utfLay_ren where
  mixed := by kernel_rfl
  f197 := Tryz.func44.trans (congrArg some (by kernel_rfl))
  f260 := Tryz.func82.trans (congrArg some (by kernel_rfl))
  t0 := Tryz.underlying0
  a0 := Tryz.isAgg0
  z0 := Tryz.sizeOf0
  v0 := Tryz.zeroValue0
  t3 := Tryz.underlying3
  a3 := Tryz.isAgg3
  z3 := Tryz.sizeOf3
  v3 := Tryz.zeroValue3
  t4 := Tryz.underlying4
  a4 := Tryz.isAgg4
  z4 := Tryz.sizeOf4
  v4 := Tryz.zeroValue4
  t5 := Tryz.underlying5
  a5 := Tryz.isAgg5
  z5 := Tryz.sizeOf5
  v5 := Tryz.zeroValue5
  t9 := Tryz.underlying9
  a9 := Tryz.isAgg9
  z9 := Tryz.sizeOf9
  v9 := Tryz.zeroValue9
  t21 := Tryz.underlying21
  a21 := Tryz.isAgg21
  z21 := Tryz.sizeOf21
  v21 := Tryz.zeroValue21
  t46 := Tryz.underlying169
  a46 := Tryz.isAgg169
  z46 := Tryz.sizeOf169
  v46 := Tryz.zeroValue169
  t105 := Tryz.underlying90
  a105 := Tryz.isAgg90
  z105 := Tryz.sizeOf90
  v105 := Tryz.zeroValue90
  t119 := Tryz.underlying168
  a119 := Tryz.isAgg168
  z119 := Tryz.sizeOf168
  t138 := Tryz.underlying171
  a138 := Tryz.isAgg171
  z138 := Tryz.sizeOf171
  v138 := Tryz.zeroValue171
  t139 := Tryz.underlying172
  a139 := Tryz.isAgg172
  z139 := Tryz.sizeOf172
  v139 := Tryz.zeroValue172
  g3 := by kernel_rfl
  g4 := by kernel_rfl

theorem dec_enters : ∀ args w, (callFunc 44 args).run Tryz.prog w = .ok (.enter 44 args) w := enters_of Tryz.func44 (by kernel_rfl) rfl
theorem dec_calls : ∀ (s : ByteArray) (w : World), Lib.Utf8Tabs 0 1 w → Calls Tryz.prog 44 #[.string s] w fun e w' => e = .returned (.tuple #[.int .i32 (Lib.decodeGo s).1, .int .i64 (Lib.decodeGo s).2]) ∧ Below w.heap.size w w' := fun s w hT => Any.utf8_DecodeRuneInString utfLay s w hT
theorem tabs_laid {W : World} (h3 : VarReads Tryz.prog W "unicode/utf8.first" firstData) (h4 : VarReads Tryz.prog W "unicode/utf8.acceptRanges" acceptData) : Lib.Utf8Tabs 0 1 W :=
  utf8Tabs_of_readsT (ρ := utfLay_ren) { utfLay with } ⟨by kernel_rfl, by kernel_rfl, by kernel_rfl, by kernel_rfl, by kernel_rfl, by kernel_rfl, by kernel_rfl⟩ h3 h4

end Go.Am
end

section
set_option maxRecDepth 1000000
namespace Go.Am
open Go.RowKit Go.Proofs

def ntabL0 : List (Nat × AFn) := [(3, a_truchmanlaw01_DocsReads), (5, a_docs_Read), (6, a_truchmanref01_Read), (7, a_truchmanref01_SamePieces), (16, a_docs_Read_1), (17, a_strings_Builder_String), (18, a_strings_Builder_Reset), (19, a_docs_isText), (20, a_strings_Contains), (21, a_strings_Builder_WriteByte), (22, a_docs_marked), (23, a_docs_CheckPieces)]
theorem ntabO0 : AllOk (CompOk Tryz.prog G0) ntabL0 := by repeat' first | (unfold CompOk; kernel_rfl) | exact trivial | refine ⟨?_, ?_⟩
def ntabL1 : List (Nat × AFn) := [(24, a_truchmanref01_upTo), (25, a_truchmanref01_marked), (26, a_truchmanref01_Text), (27, a_truchmanref01_CheckPieces), (32, a_docs_written), (42, a_docs_carried_takes), (45, a_strings_Index), (46, a_strings_Builder_copyCheck), (47, a_strings_IndexAny), (48, a_strings_HasPrefix), (49, a_strings_HasSuffix), (50, a_docs_isName)]
theorem ntabO1 : AllOk (CompOk Tryz.prog G0) ntabL1 := by repeat' first | (unfold CompOk; kernel_rfl) | exact trivial | refine ⟨?_, ?_⟩
def ntabL2 : List (Nat × AFn) := [(51, a_docs_stack_string_pop), (52, a_docs_stack_string_push), (53, a_truchmanref01_Name), (54, a_truchmanref01_written), (55, a_truchmanref01_alone), (56, a_truchmanref01_carried), (83, a_internal_stringslite_Index), (85, a_strings_IndexRune), (86, a_strings_shouldUseASCIISet), (87, a_strings_makeASCIISet), (88, a_strings_asciiSet_contains), (89, a_internal_stringslite_HasPrefix)]
theorem ntabO2 : AllOk (CompOk Tryz.prog G0) ntabL2 := by repeat' first | (unfold CompOk; kernel_rfl) | exact trivial | refine ⟨?_, ?_⟩
def ntabL3 : List (Nat × AFn) := [(90, a_internal_stringslite_HasSuffix), (109, a_internal_stringslite_IndexByte), (111, a_internal_bytealg_Cutover), (112, a_internal_bytealg_IndexRabinKarp_string), (113, a_strings_IndexByte), (114, a_unicode_utf8_ValidRune), (124, a_internal_bytealg_hashStr_string), (175, a_strings_Builder_WriteString)]
theorem ntabO3 : AllOk (CompOk Tryz.prog G0) ntabL3 := by repeat' first | (unfold CompOk; kernel_rfl) | exact trivial | refine ⟨?_, ?_⟩
def ntabLs : List (Nat × List (Nat × AFn)) := [(23, ntabL0), (50, ntabL1), (89, ntabL2), (175, ntabL3)]
def ntab (f : FuncId) : Option AFn := look2 ntabLs f
theorem ntab_ok : ∀ f af, ntab f = some af → CompOk Tryz.prog G0 f af := fun f af h => look2_ok (show AllOk2 _ ntabLs from ⟨ntabO0, ntabO1, ntabO2, ntabO3, trivial⟩) h

/-- The examples: run alone; runes: by the kit's contract. -/
def dorc (f : FuncId) (args : List AV) (H : List AObj) : Option Out :=
  match args with
  | [] => bif Nat.beq f f_truchmanlaw01_reads then some (.ret (.bool true), H) else none
  | [.str s] => bif Nat.beq f f_unicode_utf8_DecodeRuneInString then some (.ret (.tuple [.int .i32 ((decO s).1 : Nat), .int .i64 ((decO s).2 : Nat)]), H) else none
  | _ => xorc f args H
theorem dorc_ok {f : FuncId} {args : List AV} {H H' : List AObj} {r : ARes} (h : dorc f args H = some (r, H')) : ACalls Tryz.prog G0 f args H fun r2 H2 => r2 = r ∧ H2 = H' := by
  unfold dorc at h
  split at h
  · cases h1 : Nat.beq f f_truchmanlaw01_reads with
    | true => rw [h1] at h; cases h; rw [Nat.eq_of_beq_eq_true h1]; exact lives_ok H
    | false => rw [h1] at h; cases h
  · rename_i s
    cases h1 : Nat.beq f f_unicode_utf8_DecodeRuneInString with
    | true => rw [h1] at h; cases h; rw [Nat.eq_of_beq_eq_true h1]; exact ext_dec rfl dec_enters dec_calls s H
    | false => rw [h1] at h; cases h
  · exact xorc_ok h

noncomputable def EN : REnv := { P := Tryz.prog, G := G0, fn := ntab, orc := dorc, dfn := fun _ => none }
theorem EN_ok : EN.Ok := REnv.ok5 x_mixed (fun f af h => ntab_ok f af h) (fun _ _ _ h => by cases h) (fun _ _ _ _ _ h => by cases h) (fun _ _ _ _ _ h => dorc_ok h)

end Go.Am
end

