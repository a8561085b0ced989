import Derived.Test.YtokbldlkimlcmaaGreatDoorA5
import Derived.Lib.Bytealg
/-
  Part 6 of the tool: an abstract machine over the model, proved sound, and what it says of the functions that the law reaches. Condition: none but those that each theorem names.
-/
set_option linter.unusedVariables false
set_option linter.unusedSimpArgs false
section
set_option linter.unusedSimpArgs false
set_option linter.unusedVariables false
set_option maxRecDepth 100000
set_option maxHeartbeats 4000000
namespace Go.Am
open Go.RowKit
attribute [local congr] dsel_congr sel_c1 slc_cong gsel_congr go_congr aft_congr aftD_congr condR_congr backR_congr inR_congr at2_congr
variable {E : REnv} (M : Mach cdec E)

structure RefE (E : REnv) : Prop where
  truchmanref02_trait : E.fn f_truchmanref02_trait = some a_truchmanref02_trait
  truchmanref02_Class : E.fn f_truchmanref02_Class = some a_truchmanref02_Class
  truchmanref02_in : E.fn f_truchmanref02_in = some a_truchmanref02_in
  truchmanref02_bundle : E.fn f_truchmanref02_bundle = some a_truchmanref02_bundle
  truchmanref02_traits : E.fn f_truchmanref02_traits = some a_truchmanref02_traits
  truchmanref02_classes : E.fn f_truchmanref02_classes = some a_truchmanref02_classes
  truchmanref02_Unify : E.fn f_truchmanref02_Unify = some a_truchmanref02_Unify
  truchmanref02_entries : E.fn f_truchmanref02_entries = some a_truchmanref02_entries
  truchmanref02_Check : E.fn f_truchmanref02_Check = some a_truchmanref02_Check

theorem rtraitl {H H0 : List AObj} {l : Lex} {n0 : Nat} (hl : l.ok n0) {v : Str} {p : Nat} {T : TypeId} (hp : H[p]? = some (.cells l.row T)) (hc : CutOk H0 H) (k : List Fra) : ∀ (n i : Nat) (He : List AObj), i + n = (l.traits.l).length →
    M.go a_truchmanref02_trait H0 (.c l_truchmanref02_trait_0 :: .lp ⟨(some [1, 2, 5]), [], false⟩ l_truchmanref02_trait_0 He :: .blk 0 :: .c (.lv []) :: k) (kv [(1, .str v), (2, .ptr p 0), (5, .int .i64 i)]) H =
      orE (firstE (idxF fun t => t.name == v) i (l.traits.l.drop i)) (H.take H0.length) (M.go a_truchmanref02_trait H0 k .leaf H)
  | 0, i, He, h => by
    have e : i = (l.traits.l).length := by omega
    subst e
    rw [go_head M l_truchmanref02_trait_0.eq_1]
    simp (maxSteps := 3000000) (maxDischargeDepth := 6) +contextual -implicitDefEqProofs only [amA M, amB, ↓slc_true, ↓slc_false, ↓slc_not, ↓fget_at, Nat.reduceBEq, Nat.reduceAdd, env, fargs, q_truchmanref02_trait, Nat.lt_irrefl, List.drop_length, qLex, hp]
  | n + 1, i, He, h => by
    have hi : i < (l.traits.l).length := by omega
    have hx : (l.traits.l)[i]? = some (l.traits.l)[i] := List.getElem?_eq_getElem hi
    have hd : ((l.traits.l).drop i) = (l.traits.l)[i] :: (l.traits.l).drop (i + 1) := List.drop_eq_getElem_cons hi
    have hm : (l.traits.l)[i] ∈ (l.traits.l) := List.getElem_mem hi
    have ih := fun He => rtraitl (H := H) (H0 := H0) (l := l) (n0 := n0) (hl := hl) (v := v) (p := p) (T := T) (hp := hp) hc k n (i + 1)  He (by omega)
    simp only [kv_cons, kv_nil] at ih
    rw [go_head M l_truchmanref02_trait_0.eq_1]
    simp (maxSteps := 3000000) (maxDischargeDepth := 6) +contextual -implicitDefEqProofs only [amA M, amB, ↓slc_true, ↓slc_false, ↓slc_not, ↓fget_at, Nat.reduceBEq, Nat.reduceAdd, env, fargs, q_truchmanref02_trait, hx, hd, hi, ih, wrap_s hi hl.traits.len, ias_row hi, qLex, qTrait, hp, idxF, hc]
theorem run_rtrait (hR : RefE E) {l : Lex} {n : Nat} (hl : l.ok n) (v : Str) (H : List AObj) : M.run f_truchmanref02_trait [.agg l.row, .str v] H = some (.ret (.int .i64 (idxI (fun t => t.name == v) 0 l.traits.l)), H) := by
  rw [run_c M hR.truchmanref02_trait rfl (c := c_truchmanref02_trait) rfl, c_truchmanref02_trait]
  have h1 := fun k He => rtraitl M (H := H ++ [.cells l.row t_api_Lexicon]) hl (v := v) (p := H.length) (T := t_api_Lexicon) (by rw [hp_get0]; rfl) (cut_app H _) k l.traits.l.length 0 He (by omega)
  simp only [kv_cons, kv_nil, Int.ofNat_zero, List.drop_zero] at h1
  simp (maxSteps := 3000000) (maxDischargeDepth := 6) +contextual -implicitDefEqProofs only [amA M, amB, ↓slc_true, ↓slc_false, ↓slc_not, ↓fget_at, Nat.reduceBEq, Nat.reduceAdd, env, fargs, q_truchmanref02_trait, h1, cut_app]
  exact idx_first _ _ 0 H

theorem rClassl {H H0 : List AObj} {l : Lex} {n0 : Nat} (hl : l.ok n0) {v : Str} {p : Nat} {T : TypeId} (hp : H[p]? = some (.cells l.row T)) (hc : CutOk H0 H) (k : List Fra) : ∀ (n i : Nat) (He : List AObj), i + n = (l.classes.l).length →
    M.go a_truchmanref02_Class H0 (.c l_truchmanref02_Class_0 :: .lp ⟨(some [1, 2, 5]), [], false⟩ l_truchmanref02_Class_0 He :: .blk 0 :: .c (.lv []) :: k) (kv [(1, .str v), (2, .ptr p 0), (5, .int .i64 i)]) H =
      orE (firstE (idxF fun t => t.name == v) i (l.classes.l.drop i)) (H.take H0.length) (M.go a_truchmanref02_Class H0 k .leaf H)
  | 0, i, He, h => by
    have e : i = (l.classes.l).length := by omega
    subst e
    rw [go_head M l_truchmanref02_Class_0.eq_1]
    simp (maxSteps := 3000000) (maxDischargeDepth := 6) +contextual -implicitDefEqProofs only [amA M, amB, ↓slc_true, ↓slc_false, ↓slc_not, ↓fget_at, Nat.reduceBEq, Nat.reduceAdd, env, fargs, q_truchmanref02_Class, Nat.lt_irrefl, List.drop_length, qLex, hp]
  | n + 1, i, He, h => by
    have hi : i < (l.classes.l).length := by omega
    have hx : (l.classes.l)[i]? = some (l.classes.l)[i] := List.getElem?_eq_getElem hi
    have hd : ((l.classes.l).drop i) = (l.classes.l)[i] :: (l.classes.l).drop (i + 1) := List.drop_eq_getElem_cons hi
    have hm : (l.classes.l)[i] ∈ (l.classes.l) := List.getElem_mem hi
    have ih := fun He => rClassl (H := H) (H0 := H0) (l := l) (n0 := n0) (hl := hl) (v := v) (p := p) (T := T) (hp := hp) hc k n (i + 1)  He (by omega)
    simp only [kv_cons, kv_nil] at ih
    rw [go_head M l_truchmanref02_Class_0.eq_1]
    simp (maxSteps := 3000000) (maxDischargeDepth := 6) +contextual -implicitDefEqProofs only [amA M, amB, ↓slc_true, ↓slc_false, ↓slc_not, ↓fget_at, Nat.reduceBEq, Nat.reduceAdd, env, fargs, q_truchmanref02_Class, hx, hd, hi, ih, wrap_s hi hl.classes.len, ias_row hi, qLex, qClass, hp, idxF, hc]
theorem run_rClass (hR : RefE E) {l : Lex} {n : Nat} (hl : l.ok n) (v : Str) (H : List AObj) : M.run f_truchmanref02_Class [.agg l.row, .str v] H = some (.ret (.int .i64 (idxI (fun t => t.name == v) 0 l.classes.l)), H) := by
  rw [run_c M hR.truchmanref02_Class rfl (c := c_truchmanref02_Class) rfl, c_truchmanref02_Class]
  have h1 := fun k He => rClassl M (H := H ++ [.cells l.row t_api_Lexicon]) hl (v := v) (p := H.length) (T := t_api_Lexicon) (by rw [hp_get0]; rfl) (cut_app H _) k l.classes.l.length 0 He (by omega)
  simp only [kv_cons, kv_nil, Int.ofNat_zero, List.drop_zero] at h1
  simp (maxSteps := 3000000) (maxDischargeDepth := 6) +contextual -implicitDefEqProofs only [amA M, amB, ↓slc_true, ↓slc_false, ↓slc_not, ↓fget_at, Nat.reduceBEq, Nat.reduceAdd, env, fargs, q_truchmanref02_Class, h1, cut_app]
  exact idx_first _ _ 0 H


def inF (v : Str) : Nat → Str → Option AV := fun _ s => sel (v == s) (some (.bool true)) none
theorem in_first (v : Str) : ∀ (l : List Str) (i : Nat) (H : List AObj), orE (firstE (inF v) i l) H (some (.ret (.bool false), H)) = some (.ret (.bool (l.any fun s => v == s)), H)
  | [], _, _ => rfl
  | s :: l, i, H => by
    rw [firstE_cons, inF, List.any_cons, orO_sel, orE_sel, orO_some, orO_none, orE_some, in_first v l]
    cases v == s <;> rfl
theorem str_beq_comm (a b : Str) : (a == b) = (b == a) := BEq.comm
theorem rinl {H H0 : List AObj} {v : Str} {tg : Tag} {l : List Str} (hs : l.length ≤ maxL) (hc : CutOk H0 H) (k : List Fra) : ∀ (n i : Nat) (He : List AObj), i + n = l.length →
    M.go a_truchmanref02_in H0 (.c l_truchmanref02_in_0 :: .lp ⟨(some [0, 1, 5]), [], false⟩ l_truchmanref02_in_0 He :: .blk 0 :: .c (.lv []) :: k) (kv [(0, .slice tg 1 (l.map strRow)), (1, .str v), (5, .int .i64 i)]) H =
      orE (firstE (inF v) i (l.drop i)) (H.take H0.length) (M.go a_truchmanref02_in H0 k .leaf H)
  | 0, i, He, h => by
    have e : i = l.length := by omega
    subst e
    rw [go_head M l_truchmanref02_in_0.eq_1]
    simp (maxSteps := 3000000) (maxDischargeDepth := 6) +contextual -implicitDefEqProofs only [amA M, amB, ↓slc_true, ↓slc_false, ↓slc_not, ↓fget_at, Nat.reduceBEq, Nat.reduceAdd, env, fargs, q_truchmanref02_in, Nat.lt_irrefl, List.drop_length]
  | n + 1, i, He, h => by
    have hi : i < l.length := by omega
    have hx : l[i]? = some l[i] := List.getElem?_eq_getElem hi
    have hd : (l.drop i) = l[i] :: l.drop (i + 1) := List.drop_eq_getElem_cons hi
    have hm : l[i] ∈ l := List.getElem_mem hi
    have ih := fun He => rinl (H := H) (H0 := H0) (v := v) (tg := tg) (l := l) (hs := hs) hc k n (i + 1)  He (by omega)
    simp only [kv_cons, kv_nil] at ih
    rw [go_head M l_truchmanref02_in_0.eq_1]
    simp (maxSteps := 3000000) (maxDischargeDepth := 6) +contextual -implicitDefEqProofs only [amA M, amB, ↓slc_true, ↓slc_false, ↓slc_not, ↓fget_at, Nat.reduceBEq, Nat.reduceAdd, env, fargs, q_truchmanref02_in, hx, hd, hi, ih, wrap_s hi hs, ias_row hi, qStr, inF, hc, str_beq_comm v]
theorem run_rin (hR : RefE E) {v : Str} {tg : Tag} {l : List Str} (hs : l.length ≤ maxL) (H : List AObj) : M.run f_truchmanref02_in [.slice tg 1 (l.map strRow), .str v] H = some (.ret (.bool (l.any fun s => v == s)), H) := by
  rw [run_c M hR.truchmanref02_in rfl (c := c_truchmanref02_in) rfl, c_truchmanref02_in]
  have h1 := fun k He => rinl M (tg := tg) (v := v) hs (cut_refl H) k l.length 0 He (by omega)
  simp only [kv_cons, kv_nil, Int.ofNat_zero, List.drop_zero] at h1
  simp (maxSteps := 3000000) (maxDischargeDepth := 6) +contextual -implicitDefEqProofs only [amA M, amB, ↓slc_true, ↓slc_false, ↓slc_not, ↓fget_at, Nat.reduceBEq, Nat.reduceAdd, env, fargs, q_truchmanref02_in, h1]
  exact in_first _ _ 0 H

/-! Bundles -/
theorem rbl {H H0 : List AObj} (hR : RefE E) {l : Lex} {n0 : Nat} (hl : l.ok n0) {b : List Feat} {tg : Tag} (hb : b.length ≤ maxL) {p : Nat} {T : TypeId} (hp : H[p]? = some (.cells l.row T)) (hc : CutOk H0 H) (k : List Fra) : ∀ (n i : Nat) (He : List AObj), i + n = b.length →
    M.go a_truchmanref02_bundle H0 (.c l_truchmanref02_bundle_0 :: .lp ⟨(some [1, 2, 5]), [], false⟩ l_truchmanref02_bundle_0 He :: .blk 0 :: .c (.lv []) :: k) (kv [(1, .slice tg 2 (b.map Feat.row)), (2, .ptr p 0), (5, .int .i64 i)]) H =
      orE (firstE (errF (bunF l b)) i (b.drop i)) (H.take H0.length) (M.go a_truchmanref02_bundle H0 k .leaf H)
  | 0, i, He, h => by
    have e : i = b.length := by omega
    subst e
    rw [go_head M l_truchmanref02_bundle_0.eq_1]
    simp (maxSteps := 3000000) (maxDischargeDepth := 6) +contextual -implicitDefEqProofs only [amA M, amB, ↓slc_true, ↓slc_false, ↓slc_not, ↓fget_at, Nat.reduceBEq, Nat.reduceAdd, env, fargs, q_truchmanref02_bundle, Nat.lt_irrefl, List.drop_length]
  | n + 1, i, He, h => by
    have hi : i < b.length := by omega
    have hx : b[i]? = some b[i] := List.getElem?_eq_getElem hi
    have hd : (b.drop i) = b[i] :: b.drop (i + 1) := List.drop_eq_getElem_cons hi
    have hm : b[i] ∈ b := List.getElem_mem hi
    have ih := fun He => rbl (H := H) (H0 := H0) (hR := hR) (l := l) (n0 := n0) (hl := hl) (b := b) (tg := tg) (hb := hb) (p := p) (T := T) (hp := hp) hc k n (i + 1)  He (by omega)
    simp only [kv_cons, kv_nil] at ih
    have hcf := fun H => run_rtrait M hR hl b[i].name H
    rcases idxI_cases (fun t : Trait => t.name == b[i].name) l.traits.l 0 with ⟨h1, h2⟩ | ⟨j, t, h1, h2, h3⟩
    · rw [h1] at hcf
      rw [go_head M l_truchmanref02_bundle_0.eq_1]
      simp (maxSteps := 3000000) (maxDischargeDepth := 6) +contextual -implicitDefEqProofs only [amA M, amB, ↓slc_true, ↓slc_false, ↓slc_not, ↓fget_at, Nat.reduceBEq, Nat.reduceAdd, env, fargs, q_truchmanref02_bundle, hx, hd, hi, ih, hcf, qLex, qFeat, hp, ias_row hi, errF_eO, bunF, h2, neg1, qE, hc]
    · rw [h1, Nat.zero_add] at hcf
      have hj : j < l.traits.l.length := (List.getElem?_eq_some_iff.1 h2).1
      have htm : t ∈ l.traits.l := List.mem_of_getElem? h2
      cases i with
      | zero =>
        rw [go_head M l_truchmanref02_bundle_0.eq_1]
        simp (maxSteps := 3000000) (maxDischargeDepth := 6) +contextual -implicitDefEqProofs only [amA M, amB, ↓slc_true, ↓slc_false, ↓slc_not, ↓fget_at, Nat.reduceBEq, Nat.reduceAdd, env, fargs, q_truchmanref02_bundle, hx, hd, hi, ih, hcf, qLex, qFeat, qTrait, hp, ias_row hi, ias_row0 hi, errF_eO, bunF, h2, h3, neg0, pos0, prevIs, qE, hc, ias_row hj, run_rin M hR (hl.traits.all t htm).values.len, wrap_s hi hb]
      | succ i =>
        have hx1 : b[i]? = some b[i] := List.getElem?_eq_getElem (by omega)
        rw [go_head M l_truchmanref02_bundle_0.eq_1]
        simp (maxSteps := 3000000) (maxDischargeDepth := 6) +contextual -implicitDefEqProofs only [amA M, amB, ↓slc_true, ↓slc_false, ↓slc_not, ↓fget_at, Nat.reduceBEq, Nat.reduceAdd, env, fargs, q_truchmanref02_bundle, hx, hd, hi, ih, hcf, qLex, qFeat, qTrait, hp, ias_row hi, errF_eO, bunF, h2, h3, neg0, pos1, prevIs_succ hx1, hx1, ias_row (show i < b.length by omega), wrap_p (show i + 1 ≤ maxL by omega), qE, hc, ias_row hj, run_rin M hR (hl.traits.all t htm).values.len, wrap_s hi hb]
theorem run_rbundle (hR : RefE E) {l : Lex} {b : List Feat} {tg : Tag} {n : Nat} (hl : l.ok n) (hb : b.length ≤ maxL) (H : List AObj) :
    M.run f_truchmanref02_bundle [.agg l.row, .slice tg 2 (b.map Feat.row)] H = some (.ret (.int .u8 (bundleF l b)), H) := by
  rw [run_c M hR.truchmanref02_bundle rfl (c := c_truchmanref02_bundle) rfl, c_truchmanref02_bundle]
  have h1 := fun k He => rbl M hR (H := H ++ [.cells l.row t_api_Lexicon]) hl (tg := tg) hb (p := H.length) (T := t_api_Lexicon) (by rw [hp_get0]; rfl) (cut_app H _) k b.length 0 He (by omega)
  simp only [kv_cons, kv_nil, Int.ofNat_zero, List.drop_zero] at h1
  simp (maxSteps := 3000000) (maxDischargeDepth := 6) +contextual -implicitDefEqProofs only [amA M, amB, ↓slc_true, ↓slc_false, ↓slc_not, ↓fget_at, Nat.reduceBEq, Nat.reduceAdd, env, fargs, q_truchmanref02_bundle, h1, cut_app, err_first0, sel_int, bundleF, eachF]

end Go.Am
end

section
set_option linter.unusedSimpArgs false
set_option linter.unusedVariables false
set_option maxRecDepth 100000
set_option maxHeartbeats 4000000
namespace Go.Am
open Go.RowKit
attribute [local congr] dsel_congr sel_c1 slc_cong gsel_congr go_congr aft_congr aftD_congr condR_congr backR_congr inR_congr at2_congr
variable {E : REnv} (M : Mach cdec E)

theorem idx_lt {α : Type} {p : α → Bool} : ∀ {l : List α} {i : Nat} {x : α}, l[i]? = some x → p x = true → ∀ s : Nat, decide (idxI p s l < ((s + i : Nat) : Int)) = (l.take i).any p
  | [], _, _, h, _, _ => by simp at h
  | y :: l, 0, x, h, hp, s => by
    obtain rfl : y = x := by simpa using h
    simp only [idxI, hp, sel, List.take_zero, List.any_nil, Nat.add_zero]
    exact decide_eq_false (by omega)
  | y :: l, i + 1, x, h, hp, s => by
    rw [List.take_succ_cons, List.any_cons, idxI]
    cases hy : p y with
    | true => simp only [sel, Bool.true_or]; exact decide_eq_true (by omega)
    | false =>
      have := idx_lt (l := l) (i := i) (x := x) (by simpa using h) hp (s + 1)
      rw [Bool.false_or, ← this]
      simp only [sel]
      congr 2
      omega
theorem idx_lt0 {α : Type} {p : α → Bool} {l : List α} {i : Nat} {x : α} (h : l[i]? = some x) (hp : p x = true) : decide (idxI p 0 l < (i : Int)) = (l.take i).any p := by
  have := idx_lt h hp 0
  rwa [Nat.zero_add] at this

/-! Traits -/
theorem rtv {H H0 : List AObj} (hN : NamesE E) (hR : RefE E) {t : Trait} {n0 : Nat} (ht : t.ok n0) {p q : Nat} {T : TypeId} (hq : H[q]? = some (.cells t.row T)) {i0 : Nat} (hc : CutOk H0 H) (k : List Fra) : ∀ (n i : Nat) (He : List AObj), i + n = (t.values.l).length →
    M.go a_truchmanref02_traits H0 (.c l_truchmanref02_traits_0 :: .lp ⟨(some [1, 3, 4, 5]), [], false⟩ l_truchmanref02_traits_0 He :: .blk 3 :: .c (.lv [1, 3]) :: k) (kv [(1, .ptr p 0), (3, .int .i64 i0), (4, .ptr q 0), (5, .int .i64 i)]) H =
      orE (firstE (errF (valF t)) i (t.values.l.drop i)) (H.take H0.length) (M.go a_truchmanref02_traits H0 k (kv [(1, .ptr p 0), (3, .int .i64 i0)]) H)
  | 0, i, He, h => by
    have e : i = (t.values.l).length := by omega
    subst e
    rw [go_head M l_truchmanref02_traits_0.eq_1]
    simp (maxSteps := 3000000) (maxDischargeDepth := 6) +contextual -implicitDefEqProofs only [amA M, amB, ↓slc_true, ↓slc_false, ↓slc_not, ↓fget_at, Nat.reduceBEq, Nat.reduceAdd, env, fargs, q_truchmanref02_traits, Nat.lt_irrefl, List.drop_length, qTrait, hq]
  | n + 1, i, He, h => by
    have hi : i < (t.values.l).length := by omega
    have hx : (t.values.l)[i]? = some (t.values.l)[i] := List.getElem?_eq_getElem hi
    have hd : ((t.values.l).drop i) = (t.values.l)[i] :: (t.values.l).drop (i + 1) := List.drop_eq_getElem_cons hi
    have hm : (t.values.l)[i] ∈ (t.values.l) := List.getElem_mem hi
    have ih := fun He => rtv (H := H) (H0 := H0) (hN := hN) (hR := hR) (t := t) (n0 := n0) (ht := ht) (p := p) (q := q) (T := T) (hq := hq) (i0 := i0) hc k n (i + 1)  He (by omega)
    simp only [kv_cons, kv_nil] at ih
    rw [go_head M l_truchmanref02_traits_0.eq_1]
    simp (maxSteps := 3000000) (maxDischargeDepth := 6) +contextual -implicitDefEqProofs only [amA M, amB, ↓slc_true, ↓slc_false, ↓slc_not, ↓fget_at, Nat.reduceBEq, Nat.reduceAdd, env, fargs, q_truchmanref02_traits, hx, hd, hi, ih, wrap_s hi ht.values.len, ias_row hi, qTrait, qStr, hq, run_rName M hN (ht.values.all _ hm), sll_to (Nat.le_of_lt hi), run_rin M hR (take_len ht.values.len i), errF_eO, valF, qE, hc]
theorem rtr {H H0 : List AObj} (hN : NamesE E) (hR : RefE E) {l : Lex} {n0 : Nat} (hl : l.ok n0) {p : Nat} {T : TypeId} (hp : H[p]? = some (.cells l.row T)) (hc : CutOk H0 H) (k : List Fra) : ∀ (n i : Nat), i + n = (l.traits.l).length →
    M.go a_truchmanref02_traits H0 (.c l_truchmanref02_traits_1 :: .lp ⟨(some [1, 3]), [], true⟩ l_truchmanref02_traits_1 H :: .blk 0 :: .c (.lv []) :: k) (kv [(1, .ptr p 0), (3, .int .i64 i)]) H =
      orE (firstE (errF (traitF l)) i (l.traits.l.drop i)) (H.take H0.length) (M.go a_truchmanref02_traits H0 k .leaf H)
  | 0, i, h => by
    have e : i = (l.traits.l).length := by omega
    subst e
    rw [go_head M l_truchmanref02_traits_1.eq_1]
    simp (maxSteps := 3000000) (maxDischargeDepth := 6) +contextual -implicitDefEqProofs only [amA M, amB, ↓slc_true, ↓slc_false, ↓slc_not, ↓fget_at, Nat.reduceBEq, Nat.reduceAdd, env, fargs, q_truchmanref02_traits, Nat.lt_irrefl, List.drop_length, qLex, hp]
  | n + 1, i, h => by
    have hi : i < (l.traits.l).length := by omega
    have hx : (l.traits.l)[i]? = some (l.traits.l)[i] := List.getElem?_eq_getElem hi
    have hd : ((l.traits.l).drop i) = (l.traits.l)[i] :: (l.traits.l).drop (i + 1) := List.drop_eq_getElem_cons hi
    have hm : (l.traits.l)[i] ∈ (l.traits.l) := List.getElem_mem hi
    have ih := rtr (H := H) (H0 := H0) (hN := hN) (hR := hR) (l := l) (n0 := n0) (hl := hl) (p := p) (T := T) (hp := hp) hc k n (i + 1)  (by omega)
    simp only [kv_cons, kv_nil] at ih
    have hp' := fun L => hp_getl (L := L) hp
    have w1 : Wk H.length (.ptr p 0) (.ptr p 0) := wk_ptr (List.getElem?_eq_some_iff.1 hp).1
    have ht := hl.traits.all _ hm
    have h0 := fun k He => rtv M (H := H ++ [.cells l.traits.l[i].row t_api_Trait]) (H0 := H0) hN hR ht (p := p) (q := H.length) (T := t_api_Trait) (by rw [hp_get0]; rfl) (i0 := i) (cut_more hc _) k l.traits.l[i].values.l.length 0 He (by omega)
    simp only [kv_cons, kv_nil, Int.ofNat_zero, List.drop_zero] at h0
    rw [go_head M l_truchmanref02_traits_1.eq_1]
    simp (maxSteps := 3000000) (maxDischargeDepth := 6) +contextual -implicitDefEqProofs only [amA M, amB, ↓slc_true, ↓slc_false, ↓slc_not, ↓fget_at, Nat.reduceBEq, Nat.reduceAdd, env, fargs, q_truchmanref02_traits, hx, hd, hi, ih, amG, AV.cell, hp, hp', w1, h0, wrap_s hi hl.traits.len, ias_row hi, qLex, qTrait, run_rName M hN ht.name, run_rtrait M hR hl, idx_lt0 (p := fun t : Trait => t.name == l.traits.l[i].name) hx (by simp), errF_eO, traitF, qE, eO_errI, hc]
theorem run_rtraits (hN : NamesE E) (hR : RefE E) {l : Lex} {n : Nat} (hl : l.ok n) (H : List AObj) : M.run f_truchmanref02_traits [.agg l.row] H = some (.ret (.int .u8 (check1 l)), H) := by
  rw [run_c M hR.truchmanref02_traits rfl (c := c_truchmanref02_traits) rfl, c_truchmanref02_traits]
  have h1 := fun k => rtr M hN hR (H := H ++ [.cells l.row t_api_Lexicon]) hl (p := H.length) (T := t_api_Lexicon) (by rw [hp_get0]; rfl) (cut_app H _) k l.traits.l.length 0 (by omega)
  simp only [kv_cons, kv_nil, Int.ofNat_zero, List.drop_zero] at h1
  simp (maxSteps := 3000000) (maxDischargeDepth := 6) +contextual -implicitDefEqProofs only [amA M, amB, ↓slc_true, ↓slc_false, ↓slc_not, ↓fget_at, Nat.reduceBEq, Nat.reduceAdd, env, fargs, q_truchmanref02_traits, h1, qLex, cut_app, err_first0, sel_int, check1, eachF]

/-! Classes -/
theorem shortF_lo (s : Str) : (!shortF isLo s) = (!ofF [] s || decide (6 < (s.length : Int))) := by
  rw [ofF_nil, shortF]
  cases s.all isLo with
  | false => simp
  | true => simp only [Bool.and_true, Bool.not_true, Bool.false_or]; rw [Bool.eq_iff_iff]; simp
theorem rcs {H H0 : List AObj} (hN : NamesE E) (hR : RefE E) {l : Lex} {c : Class} {n0 : Nat} (hl : l.ok n0) (hco : c.ok n0) {p q : Nat} {T T2 : TypeId} (hp : H[p]? = some (.cells l.row T)) (hq : H[q]? = some (.cells c.row T2)) {i0 : Nat} (hc : CutOk H0 H) (k : List Fra) : ∀ (n i : Nat), i + n = (c.slots.l).length →
    M.go a_truchmanref02_classes H0 (.c l_truchmanref02_classes_0 :: .lp ⟨(some [1, 3, 4, 5]), [], true⟩ l_truchmanref02_classes_0 H :: .blk 3 :: .c (.lv [1, 3]) :: k) (kv [(1, .ptr p 0), (3, .int .i64 i0), (4, .ptr q 0), (5, .int .i64 i)]) H =
      orE (firstE (errF fun _ s => slotF l s) i (c.slots.l.drop i)) (H.take H0.length) (M.go a_truchmanref02_classes H0 k (kv [(1, .ptr p 0), (3, .int .i64 i0)]) H)
  | 0, i, h => by
    have e : i = (c.slots.l).length := by omega
    subst e
    rw [go_head M l_truchmanref02_classes_0.eq_1]
    simp (maxSteps := 3000000) (maxDischargeDepth := 6) +contextual -implicitDefEqProofs only [amA M, amB, ↓slc_true, ↓slc_false, ↓slc_not, ↓fget_at, Nat.reduceBEq, Nat.reduceAdd, env, fargs, q_truchmanref02_classes, Nat.lt_irrefl, List.drop_length, qClass, hq]
  | n + 1, i, h => by
    have hi : i < (c.slots.l).length := by omega
    have hx : (c.slots.l)[i]? = some (c.slots.l)[i] := List.getElem?_eq_getElem hi
    have hd : ((c.slots.l).drop i) = (c.slots.l)[i] :: (c.slots.l).drop (i + 1) := List.drop_eq_getElem_cons hi
    have hm : (c.slots.l)[i] ∈ (c.slots.l) := List.getElem_mem hi
    have ih := rcs (H := H) (H0 := H0) (hN := hN) (hR := hR) (l := l) (c := c) (n0 := n0) (hl := hl) (hco := hco) (p := p) (q := q) (T := T) (T2 := T2) (hp := hp) (hq := hq) (i0 := i0) hc k n (i + 1)  (by omega)
    simp only [kv_cons, kv_nil] at ih
    have hp' := fun L => hp_getl (L := L) hp
    have hq' := fun L => hp_getl (L := L) hq
    have w1 : Wk H.length (.ptr p 0) (.ptr p 0) := wk_ptr (List.getElem?_eq_some_iff.1 hp).1
    have w2 : Wk H.length (.ptr q 0) (.ptr q 0) := wk_ptr (List.getElem?_eq_some_iff.1 hq).1
    have hs := hco.slots.all _ hm
    have e1 : slotF l c.slots.l[i] = sel (decide (c.slots.l[i].cut < 0) || (decide (24 < c.slots.l[i].cut) || (!ofF [] c.slots.l[i].pre || (decide (6 < (c.slots.l[i].pre.length : Int)) || (!ofF [] c.slots.l[i].add || decide (6 < (c.slots.l[i].add.length : Int))))))) 1 (bundleF l c.slots.l[i].feats.l) := by
      rw [slotF, shortF_lo, shortF_lo]; simp only [Bool.or_assoc]
    rw [go_head M l_truchmanref02_classes_0.eq_1]
    simp (maxSteps := 3000000) (maxDischargeDepth := 6) +contextual -implicitDefEqProofs only [amA M, amB, ↓slc_true, ↓slc_false, ↓slc_not, ↓fget_at, Nat.reduceBEq, Nat.reduceAdd, env, fargs, q_truchmanref02_classes, hx, hd, hi, ih, amG, AV.cell, hp, hq, hp', hq', w1, w2, wrap_s hi hco.slots.len, ias_row hi, qLex, qClass, qSlot, run_of M hN hs.pre (more := []) (by simp), run_of M hN hs.add (more := []) (by simp), run_rbundle M hR hl hs.feats.len, errF_eO, e1, Bool.or_assoc, qE, orE_eO, hc]
theorem rcl {H H0 : List AObj} (hN : NamesE E) (hR : RefE E) {l : Lex} {n0 : Nat} (hl : l.ok n0) {p : Nat} {T : TypeId} (hp : H[p]? = some (.cells l.row T)) (hc : CutOk H0 H) (k : List Fra) : ∀ (n i : Nat), i + n = (l.classes.l).length →
    M.go a_truchmanref02_classes H0 (.c l_truchmanref02_classes_1 :: .lp ⟨(some [1, 3]), [], true⟩ l_truchmanref02_classes_1 H :: .blk 0 :: .c (.lv []) :: k) (kv [(1, .ptr p 0), (3, .int .i64 i)]) H =
      orE (firstE (errF (classF l)) i (l.classes.l.drop i)) (H.take H0.length) (M.go a_truchmanref02_classes H0 k .leaf H)
  | 0, i, h => by
    have e : i = (l.classes.l).length := by omega
    subst e
    rw [go_head M l_truchmanref02_classes_1.eq_1]
    simp (maxSteps := 3000000) (maxDischargeDepth := 6) +contextual -implicitDefEqProofs only [amA M, amB, ↓slc_true, ↓slc_false, ↓slc_not, ↓fget_at, Nat.reduceBEq, Nat.reduceAdd, env, fargs, q_truchmanref02_classes, Nat.lt_irrefl, List.drop_length, qLex, hp]
  | n + 1, i, h => by
    have hi : i < (l.classes.l).length := by omega
    have hx : (l.classes.l)[i]? = some (l.classes.l)[i] := List.getElem?_eq_getElem hi
    have hd : ((l.classes.l).drop i) = (l.classes.l)[i] :: (l.classes.l).drop (i + 1) := List.drop_eq_getElem_cons hi
    have hm : (l.classes.l)[i] ∈ (l.classes.l) := List.getElem_mem hi
    have ih := rcl (H := H) (H0 := H0) (hN := hN) (hR := hR) (l := l) (n0 := n0) (hl := hl) (p := p) (T := T) (hp := hp) hc k n (i + 1)  (by omega)
    simp only [kv_cons, kv_nil] at ih
    have hp' := fun L => hp_getl (L := L) hp
    have w1 : Wk H.length (.ptr p 0) (.ptr p 0) := wk_ptr (List.getElem?_eq_some_iff.1 hp).1
    have ht := hl.classes.all _ hm
    have h0 := fun k => rcs M (H := H ++ [.cells l.classes.l[i].row t_api_Class]) (H0 := H0) hN hR hl ht (p := p) (q := H.length) (T := T) (T2 := t_api_Class) (hp' _) (by rw [hp_get0]; rfl) (i0 := i) (cut_more hc _) k l.classes.l[i].slots.l.length 0 (by omega)
    simp only [kv_cons, kv_nil, Int.ofNat_zero, List.drop_zero] at h0
    rw [go_head M l_truchmanref02_classes_1.eq_1]
    simp (maxSteps := 3000000) (maxDischargeDepth := 6) +contextual -implicitDefEqProofs only [amA M, amB, ↓slc_true, ↓slc_false, ↓slc_not, ↓fget_at, Nat.reduceBEq, Nat.reduceAdd, env, fargs, q_truchmanref02_classes, hx, hd, hi, ih, amG, AV.cell, hp, hp', w1, h0, wrap_s hi hl.classes.len, ias_row hi, qLex, qClass, run_rName M hN ht.name, run_rClass M hR hl, idx_lt0 (p := fun t : Class => t.name == l.classes.l[i].name) hx (by simp), errF_eO, classF, qE, eO_errI, eachF, hc]
theorem run_rclasses (hN : NamesE E) (hR : RefE E) {l : Lex} {n : Nat} (hl : l.ok n) (H : List AObj) : M.run f_truchmanref02_classes [.agg l.row] H = some (.ret (.int .u8 (check2 l)), H) := by
  rw [run_c M hR.truchmanref02_classes rfl (c := c_truchmanref02_classes) rfl, c_truchmanref02_classes]
  have h1 := fun k => rcl M hN hR (H := H ++ [.cells l.row t_api_Lexicon]) hl (p := H.length) (T := t_api_Lexicon) (by rw [hp_get0]; rfl) (cut_app H _) k l.classes.l.length 0 (by omega)
  simp only [kv_cons, kv_nil, Int.ofNat_zero, List.drop_zero] at h1
  simp (maxSteps := 3000000) (maxDischargeDepth := 6) +contextual -implicitDefEqProofs only [amA M, amB, ↓slc_true, ↓slc_false, ↓slc_not, ↓fget_at, Nat.reduceBEq, Nat.reduceAdd, env, fargs, q_truchmanref02_classes, h1, qLex, cut_app, err_first0, sel_int, check2, eachF]

end Go.Am
end

section
set_option linter.unusedSimpArgs false
set_option linter.unusedVariables false
set_option maxRecDepth 100000
set_option maxHeartbeats 4000000
namespace Go.Am
open Go.RowKit
attribute [local congr] dsel_congr sel_c1 slc_cong gsel_congr go_congr aft_congr aftD_congr condR_congr backR_congr inR_congr at2_congr
variable {E : REnv} (M : Mach cdec E)

/-- Each name is less than the next one. -/
def incrFrom (p : Feat) : List Feat → Bool
  | [] => true
  | x :: l => Op.bytesLess p.name x.name && incrFrom x l
def incr : List Feat → Bool
  | [] => true
  | x :: l => incrFrom x l
def noU : AV := .tuple [.slice .any 2 [], .bool false]
def incF (b : List Feat) : Nat → Feat → Option AV := fun i x => sel (prevIs b (fun g => !Op.bytesLess g.name x.name) i) (some noU) none
theorem inc_first (b : List Feat) : ∀ (l : List Feat) (i : Nat) (f : Feat), b[i]? = some f → b.drop (i + 1) = l → firstE (incF b) (i + 1) l = sel (incrFrom f l) none (some noU)
  | [], i, f, _, _ => rfl
  | x :: l, i, f, h, hd => by
    have h2 : b[i + 1]? = some x := by
      have := List.getElem?_drop (xs := b) (i := i + 1) (j := 0)
      rw [hd] at this; simpa using this.symm
    have hd2 : b.drop (i + 1 + 1) = l := by
      have : (b.drop (i + 1)).drop 1 = l := by rw [hd]; rfl
      rwa [List.drop_drop] at this
    rw [firstE_cons, inc_first b l (i + 1) x h2 hd2, incF, prevIs_succ h, incrFrom]
    cases Op.bytesLess f.name x.name <;> cases incrFrom x l <;> rfl
theorem inc_first0 (b : List Feat) (H : List AObj) (x : Option Out) : orE (firstE (incF b) 1 (b.drop 1)) H x = sel (incr b) x (some (.ret noU, H)) := by
  cases b with
  | nil => rfl
  | cons f l =>
    rw [show List.drop 1 (f :: l) = l from rfl, inc_first (f :: l) l 0 f rfl rfl, incr]
    cases incrFrom f l <;> rfl

theorem ruc0 {H H0 : List AObj} {a b : Sl Feat} (ha : a.l.length ≤ maxL) (hb : b.l.length ≤ maxL) (hc : CutOk H0 H) (k : List Fra) : ∀ (n i : Nat) (h1 : 1 ≤ i) (He : List AObj), (a.l).length - i = n →
    M.go a_truchmanref02_Unify H0 (.c l_truchmanref02_Unify_0 :: .lp ⟨(some [0, 1, 6]), [], false⟩ l_truchmanref02_Unify_0 He :: .blk 0 :: .c (.lv [0, 1]) :: k) (kv [(0, .slice a.tag 2 (a.l.map Feat.row)), (1, .slice b.tag 2 (b.l.map Feat.row)), (6, .int .i64 i)]) H =
      orE (firstE (incF a.l) i (a.l.drop i)) (H.take H0.length) (M.go a_truchmanref02_Unify H0 k (kv [(0, .slice a.tag 2 (a.l.map Feat.row)), (1, .slice b.tag 2 (b.l.map Feat.row))]) H)
  | 0, i, h1, He, h => by
    have e : ¬ i < (a.l).length := by omega
    have e2 : (a.l).drop i = [] := List.drop_of_length_le (by omega)
    rw [go_head M l_truchmanref02_Unify_0.eq_1]
    simp (maxSteps := 3000000) (maxDischargeDepth := 6) +contextual -implicitDefEqProofs only [amA M, amB, ↓slc_true, ↓slc_false, ↓slc_not, ↓fget_at, Nat.reduceBEq, Nat.reduceAdd, env, fargs, q_truchmanref02_Unify, e, e2]
  | n + 1, i, h1, He, h => by
    have hi : i < (a.l).length := by omega
    have hx : (a.l)[i]? = some (a.l)[i] := List.getElem?_eq_getElem hi
    have hd : ((a.l).drop i) = (a.l)[i] :: (a.l).drop (i + 1) := List.drop_eq_getElem_cons hi
    have hm : (a.l)[i] ∈ (a.l) := List.getElem_mem hi
    have ih := fun h1 He => ruc0 (H := H) (H0 := H0) (a := a) (b := b) (ha := ha) (hb := hb) hc k n (i + 1) h1 He (by omega)
    simp only [kv_cons, kv_nil] at ih
    have ih := ih (by omega)
    cases i with
    | zero => omega
    | succ i =>
      have hx1 : a.l[i]? = some a.l[i] := List.getElem?_eq_getElem (by omega)
      rw [go_head M l_truchmanref02_Unify_0.eq_1]
      simp (maxSteps := 3000000) (maxDischargeDepth := 6) +contextual -implicitDefEqProofs only [amA M, amB, ↓slc_true, ↓slc_false, ↓slc_not, ↓fget_at, Nat.reduceBEq, Nat.reduceAdd, env, fargs, q_truchmanref02_Unify, hx, hd, hi, ih, qFeat, hx1, ias_row hi, ias_row (show i < a.l.length by omega), wrap_p (show i + 1 ≤ maxL by omega), wrap_s hi ha, incF, prevIs_succ hx1, hc, noU, rowsWk_nil]

theorem ruc1 {H H0 : List AObj} {a b : Sl Feat} (ha : a.l.length ≤ maxL) (hb : b.l.length ≤ maxL) (hc : CutOk H0 H) (k : List Fra) : ∀ (n i : Nat) (h1 : 1 ≤ i) (He : List AObj), (b.l).length - i = n →
    M.go a_truchmanref02_Unify H0 (.c l_truchmanref02_Unify_1 :: .lp ⟨(some [0, 1, 7]), [], false⟩ l_truchmanref02_Unify_1 He :: .blk 2 :: .c (.lv [0, 1]) :: k) (kv [(0, .slice a.tag 2 (a.l.map Feat.row)), (1, .slice b.tag 2 (b.l.map Feat.row)), (7, .int .i64 i)]) H =
      orE (firstE (incF b.l) i (b.l.drop i)) (H.take H0.length) (M.go a_truchmanref02_Unify H0 k (kv [(0, .slice a.tag 2 (a.l.map Feat.row)), (1, .slice b.tag 2 (b.l.map Feat.row))]) H)
  | 0, i, h1, He, h => by
    have e : ¬ i < (b.l).length := by omega
    have e2 : (b.l).drop i = [] := List.drop_of_length_le (by omega)
    rw [go_head M l_truchmanref02_Unify_1.eq_1]
    simp (maxSteps := 3000000) (maxDischargeDepth := 6) +contextual -implicitDefEqProofs only [amA M, amB, ↓slc_true, ↓slc_false, ↓slc_not, ↓fget_at, Nat.reduceBEq, Nat.reduceAdd, env, fargs, q_truchmanref02_Unify, e, e2]
  | n + 1, i, h1, He, h => by
    have hi : i < (b.l).length := by omega
    have hx : (b.l)[i]? = some (b.l)[i] := List.getElem?_eq_getElem hi
    have hd : ((b.l).drop i) = (b.l)[i] :: (b.l).drop (i + 1) := List.drop_eq_getElem_cons hi
    have hm : (b.l)[i] ∈ (b.l) := List.getElem_mem hi
    have ih := fun h1 He => ruc1 (H := H) (H0 := H0) (a := a) (b := b) (ha := ha) (hb := hb) hc k n (i + 1) h1 He (by omega)
    simp only [kv_cons, kv_nil] at ih
    have ih := ih (by omega)
    cases i with
    | zero => omega
    | succ i =>
      have hx1 : b.l[i]? = some b.l[i] := List.getElem?_eq_getElem (by omega)
      rw [go_head M l_truchmanref02_Unify_1.eq_1]
      simp (maxSteps := 3000000) (maxDischargeDepth := 6) +contextual -implicitDefEqProofs only [amA M, amB, ↓slc_true, ↓slc_false, ↓slc_not, ↓fget_at, Nat.reduceBEq, Nat.reduceAdd, env, fargs, q_truchmanref02_Unify, hx, hd, hi, ih, qFeat, hx1, ias_row hi, ias_row (show i < b.l.length by omega), wrap_p (show i + 1 ≤ maxL by omega), wrap_s hi hb, incF, prevIs_succ hx1, hc, noU, rowsWk_nil]

end Go.Am
end

section
set_option linter.unusedSimpArgs false
set_option linter.unusedVariables false
set_option maxRecDepth 100000
set_option maxHeartbeats 4000000
namespace Go.Am
open Go.RowKit
attribute [local congr] dsel_congr sel_c1 slc_cong gsel_congr go_congr aft_congr aftD_congr condR_congr backR_congr inR_congr at2_congr
variable {E : REnv} (M : Mach cdec E)

/-- Two bundles in one. -/
def mergeF : List Feat → List Feat → Option (List Feat)
  | [], b => some b
  | x :: a, [] => some (x :: a)
  | x :: a, y :: b =>
    match Op.bytesLess x.name y.name with
    | true => (mergeF a (y :: b)).map (x :: ·)
    | false => match Op.bytesLess y.name x.name with
      | true => (mergeF (x :: a) b).map (y :: ·)
      | false => match x.name == y.name && x.value == y.value with
        | true => (mergeF a b).map (x :: ·)
        | false => none
termination_by a b => a.length + b.length

theorem merge_b (y : Feat) (b : List Feat) : mergeF [] (y :: b) = (mergeF [] b).map (y :: ·) := by simp [mergeF]
theorem merge_a (x : Feat) (a : List Feat) : mergeF (x :: a) [] = (mergeF a []).map (x :: ·) := by
  cases a <;> simp [mergeF]
theorem merge_nil : mergeF [] [] = some [] := by simp [mergeF]

/-- What the merging of what is left comes to. -/
def mgO (M : Mach cdec E) (H0 : List AObj) (k : List Fra) (o : List Feat) (r : Option (List Feat)) (H : List AObj) : Option Out :=
  match r with
  | none => some (.ret noU, H.take H0.length)
  | some r => M.go a_truchmanref02_Unify H0 k (kv [(8, .slice (.own H.length) 2 ((o ++ r).map Feat.row))]) (H ++ [.tok ((o ++ r).length * 2) t_api_Feat])
theorem mgO_cons (H0 : List AObj) (k : List Fra) (o : List Feat) (x : Feat) (r : Option (List Feat)) (H : List AObj) : mgO M H0 k o (r.map (x :: ·)) H = mgO M H0 k (o ++ [x]) r H := by
  cases r with
  | none => rfl
  | some r => simp only [Option.map_some, mgO, List.append_assoc, List.cons_append, List.nil_append]

theorem req_feat (x y : Feat) : req (.st [(0, .str), (1, .str)]) (.agg x.row) (.agg y.row) = some (x.name == y.name && x.value == y.value) := by
  simp only [req, reqFields, Feat.row, List.getElem?_cons_zero, List.getElem?_cons_succ, reqCell]
  cases x.name == y.name <;> simp
  cases x.value == y.value <;> rfl
theorem feat_wk (n : Nat) (x : Feat) : WkL n (Feat.row x) (Feat.row x) := ⟨wk_str _ _, wk_str _ _, trivial⟩
theorem feats_wk (n : Nat) (l : List Feat) : RowsWk n (l.map Feat.row) := by
  rw [rowsWk_map]; exact fun _ _ => ⟨wk_str _ _, wk_str _ _, trivial⟩

theorem rum {a b : Sl Feat} {H H0 : List AObj} (hc : CutOk H0 H) (k : List Fra) : ∀ (n i j : Nat) (o : List Feat) (He : List AObj), i ≤ a.l.length → j ≤ b.l.length → (a.l.length - i) + (b.l.length - j) = n → o.length + n ≤ 4000000000000 → a.l.length + b.l.length ≤ 4000000000000 →
    M.go a_truchmanref02_Unify H0 (.c l_truchmanref02_Unify_2 :: .lp ⟨(some [0, 1, 8, 9, 10]), [(8, 2, t_api_Feat)], false⟩ l_truchmanref02_Unify_2 He :: .blk 4 :: .c (.lv [8]) :: k) (kv [(0, .slice a.tag 2 (a.l.map Feat.row)), (1, .slice b.tag 2 (b.l.map Feat.row)), (8, .slice (.own H.length) 2 (o.map Feat.row)), (9, .int .i64 i), (10, .int .i64 j)]) (H ++ [.tok (o.length * 2) t_api_Feat]) =
      mgO M H0 k o (mergeF (a.l.drop i) (b.l.drop j)) H
  | n, i, j, o, He, hi, hj, hn, ho, hab => by
    have bi : i < a.l.length → IntKind.i64.wrap ((i : Int) + 1) = ((i + 1 : Nat) : Int) := fun h => wrap_s h (by simp only [maxL]; omega)
    have bj : j < b.l.length → IntKind.i64.wrap ((j : Int) + 1) = ((j + 1 : Nat) : Int) := fun h => wrap_s h (by simp only [maxL]; omega)
    have ap := fun (x : Feat) (h : o.length + 1 ≤ 4000000000000) => ap_own (row := Feat.row) (l := o) (x := x) (r := x.row) (sz := 2) (bytes := 32) (e := t_api_Feat) H rfl rfl rfl (by omega) (by omega)
    by_cases h1 : i < a.l.length
    · have hx : a.l[i]? = some a.l[i] := List.getElem?_eq_getElem h1
      have hd : a.l.drop i = a.l[i] :: a.l.drop (i + 1) := List.drop_eq_getElem_cons h1
      have hol : o.length + 1 ≤ 4000000000000 := by omega
      have i1 := fun He => rum hc k (n - 1) (i + 1) j (o ++ [a.l[i]]) He (by omega) hj (by omega) (by simp; omega) hab
      have hne : (i == a.l.length) = false := by simp; omega
      by_cases h2 : j < b.l.length
      · have hy : b.l[j]? = some b.l[j] := List.getElem?_eq_getElem h2
        have hdy : b.l.drop j = b.l[j] :: b.l.drop (j + 1) := List.drop_eq_getElem_cons h2
        have i2 := fun He => rum hc k (n - 1) i (j + 1) (o ++ [b.l[j]]) He hi (by omega) (by omega) (by simp; omega) hab
        have i3 := fun He => rum hc k (n - 2) (i + 1) (j + 1) (o ++ [a.l[i]]) He (by omega) (by omega) (by omega) (by simp; omega) hab
        have hne2 : (j == b.l.length) = false := by simp; omega
        simp only [kv_cons, kv_nil] at i1 i2 i3
        rw [hd, hdy, mergeF, ← hd, ← hdy]
        cases c1 : Op.bytesLess a.l[i].name b.l[j].name with
        | true =>
          simp only [mgO_cons]
          rw [go_head M l_truchmanref02_Unify_2.eq_1]
          simp (maxSteps := 3000000) (maxDischargeDepth := 6) +contextual -implicitDefEqProofs only [amA M, amB, ↓slc_true, ↓slc_false, ↓slc_not, ↓fget_at, Nat.reduceBEq, Nat.reduceAdd, env, fargs, q_truchmanref02_Unify, amG, AV.cell, Nat.reduceMul, Nat.reduceLeDiff, hx, hy, h1, h2, bi h1, bj h2, qFeat, ias_row h1, ias_row h2, hne, hne2, c1, ap a.l[i] hol, i1]
        | false =>
          simp only
          cases c2 : Op.bytesLess b.l[j].name a.l[i].name with
          | true =>
            simp only [mgO_cons]
            rw [go_head M l_truchmanref02_Unify_2.eq_1]
            simp (maxSteps := 3000000) (maxDischargeDepth := 6) +contextual -implicitDefEqProofs only [amA M, amB, ↓slc_true, ↓slc_false, ↓slc_not, ↓fget_at, Nat.reduceBEq, Nat.reduceAdd, env, fargs, q_truchmanref02_Unify, amG, AV.cell, Nat.reduceMul, Nat.reduceLeDiff, hx, hy, h1, h2, bi h1, bj h2, qFeat, ias_row h1, ias_row h2, hne, hne2, c1, c2, ap b.l[j] hol, i2]
          | false =>
            simp only
            cases c3 : (a.l[i].name == b.l[j].name && a.l[i].value == b.l[j].value) with
            | true =>
              simp only [mgO_cons]
              rw [go_head M l_truchmanref02_Unify_2.eq_1]
              simp (maxSteps := 3000000) (maxDischargeDepth := 6) +contextual -implicitDefEqProofs only [amA M, amB, ↓slc_true, ↓slc_false, ↓slc_not, ↓fget_at, Nat.reduceBEq, Nat.reduceAdd, env, fargs, q_truchmanref02_Unify, amG, AV.cell, Nat.reduceMul, Nat.reduceLeDiff, hx, hy, h1, h2, bi h1, bj h2, qFeat, ias_row h1, ias_row h2, hne, hne2, c1, c2, c3, req_feat, ap a.l[i] hol, i3]
            | false =>
              simp only [mgO]
              rw [go_head M l_truchmanref02_Unify_2.eq_1]
              simp (maxSteps := 3000000) (maxDischargeDepth := 6) +contextual -implicitDefEqProofs only [amA M, amB, ↓slc_true, ↓slc_false, ↓slc_not, ↓fget_at, Nat.reduceBEq, Nat.reduceAdd, env, fargs, q_truchmanref02_Unify, amG, AV.cell, Nat.reduceMul, Nat.reduceLeDiff, hx, hy, h1, h2, bi h1, bj h2, qFeat, ias_row h1, ias_row h2, hne, hne2, c1, c2, c3, req_feat, hc, noU, rowsWk_nil]
      · obtain rfl : j = b.l.length := by omega
        have hdy : b.l.drop b.l.length = [] := List.drop_length
        simp only [kv_cons, kv_nil] at i1
        rw [hd, hdy, merge_a, mgO_cons]
        rw [hdy] at i1
        rw [go_head M l_truchmanref02_Unify_2.eq_1]
        simp (maxSteps := 3000000) (maxDischargeDepth := 6) +contextual -implicitDefEqProofs only [amA M, amB, ↓slc_true, ↓slc_false, ↓slc_not, ↓fget_at, Nat.reduceBEq, Nat.reduceAdd, env, fargs, q_truchmanref02_Unify, amG, AV.cell, Nat.reduceMul, Nat.reduceLeDiff, hx, h1, Nat.lt_irrefl, bi h1, qFeat, ias_row h1, hne, beq_self_eq_true, ap a.l[i] hol, i1]
    · obtain rfl : i = a.l.length := by omega
      have hdx : a.l.drop a.l.length = [] := List.drop_length
      by_cases h2 : j < b.l.length
      · have hy : b.l[j]? = some b.l[j] := List.getElem?_eq_getElem h2
        have hdy : b.l.drop j = b.l[j] :: b.l.drop (j + 1) := List.drop_eq_getElem_cons h2
        have hol : o.length + 1 ≤ 4000000000000 := by omega
        have i2 := fun He => rum hc k (n - 1) a.l.length (j + 1) (o ++ [b.l[j]]) He hi (by omega) (by omega) (by simp; omega) hab
        have hne2 : (j == b.l.length) = false := by simp; omega
        simp only [kv_cons, kv_nil] at i2
        rw [hdx, hdy, merge_b, mgO_cons]
        rw [hdx] at i2
        rw [go_head M l_truchmanref02_Unify_2.eq_1]
        simp (maxSteps := 3000000) (maxDischargeDepth := 6) +contextual -implicitDefEqProofs only [amA M, amB, ↓slc_true, ↓slc_false, ↓slc_not, ↓fget_at, Nat.reduceBEq, Nat.reduceAdd, env, fargs, q_truchmanref02_Unify, amG, AV.cell, Nat.reduceMul, Nat.reduceLeDiff, hy, h2, Nat.lt_irrefl, bj h2, qFeat, ias_row h2, hne2, beq_self_eq_true, ap b.l[j] hol, i2]
      · obtain rfl : j = b.l.length := by omega
        rw [hdx, List.drop_length, merge_nil, mgO, List.append_nil]
        rw [go_head M l_truchmanref02_Unify_2.eq_1]
        simp (maxSteps := 3000000) (maxDischargeDepth := 6) +contextual -implicitDefEqProofs only [amA M, amB, ↓slc_true, ↓slc_false, ↓slc_not, ↓fget_at, Nat.reduceBEq, Nat.reduceAdd, env, fargs, q_truchmanref02_Unify, Nat.lt_irrefl]
termination_by n => n
decreasing_by all_goals omega

def unifyF (a b : List Feat) : Option (List Feat) := sel (incr a) (sel (incr b) (mergeF a b) none) none
def uniV (r : Option (List Feat)) : AV :=
  match r with
  | none => noU
  | some r => .tuple [.slice .any 2 (r.map Feat.row), .bool true]
theorem run_rUnify (hR : RefE E) {a b : Sl Feat} (hab : a.l.length + b.l.length ≤ 4000000000000) (H : List AObj) :
    M.run f_truchmanref02_Unify [.slice a.tag 2 (a.l.map Feat.row), .slice b.tag 2 (b.l.map Feat.row)] H = some (.ret (uniV (unifyF a.l b.l)), H) := by
  rw [run_c M hR.truchmanref02_Unify rfl (c := c_truchmanref02_Unify) rfl, c_truchmanref02_Unify]
  have ha : a.l.length ≤ maxL := by simp only [maxL]; omega
  have hb : b.l.length ≤ maxL := by simp only [maxL]; omega
  have h1 := fun k He => ruc0 M ha hb (cut_refl H) k (a.l.length - 1) 1 (by omega) He rfl
  have h2 := fun k He => ruc1 M ha hb (cut_refl H) k (b.l.length - 1) 1 (by omega) He rfl
  have h3 := fun k He => rum M (a := a) (b := b) (cut_refl H) k (a.l.length + b.l.length) 0 0 [] He (by omega) (by omega) (by omega) (by simp; omega) hab
  simp only [kv_cons, kv_nil, Int.ofNat_zero, (show ((1 : Nat) : Int) = 1 from rfl), List.drop_zero, inc_first0, List.length_nil, Nat.zero_mul, List.map_nil] at h1 h2 h3
  simp (maxSteps := 3000000) (maxDischargeDepth := 6) +contextual -implicitDefEqProofs only [amA M, amB, ↓slc_true, ↓slc_false, ↓slc_not, ↓fget_at, Nat.reduceBEq, Nat.reduceAdd, env, fargs, q_truchmanref02_Unify, h1, h2, h3]
  unfold unifyF
  cases incr a.l with
  | false => rfl
  | true =>
    cases incr b.l with
    | false => rfl
    | true =>
      simp only [Bool.and_true, slc_true, sel]
      cases mergeF a.l b.l with
      | none => simp only [mgO, hp_self, uniV]
      | some r =>
        simp only [mgO, List.nil_append, uniV]
        simp (maxSteps := 3000000) (maxDischargeDepth := 6) +contextual -implicitDefEqProofs only [amA M, amB, ↓slc_true, ↓slc_false, ↓slc_not, ↓fget_at, Nat.reduceBEq, Nat.reduceAdd, env, fargs, q_truchmanref02_Unify, feat_wk, implies_true]

end Go.Am
end

section
set_option linter.unusedSimpArgs false
set_option linter.unusedVariables false
namespace Go.Am
open Go.RowKit

/-! Plain laws: strings in order, bundles -/
theorem bl_irr : ∀ x : Str, Op.bytesLess x x = false
  | [] => rfl
  | a :: x => by
    have h : ¬ a < a := by simp
    simp only [Op.bytesLess, bl_irr x, Bool.and_false, Bool.or_false, decide_eq_false h]
theorem bl_tri : ∀ {x y : Str}, Op.bytesLess x y = false → Op.bytesLess y x = false → x = y
  | [], [], _, _ => rfl
  | [], _ :: _, h, _ => by simp [Op.bytesLess] at h
  | _ :: _, [], _, h => by simp [Op.bytesLess] at h
  | a :: x, b :: y, h1, h2 => by
    simp only [Op.bytesLess, Bool.or_eq_false_iff, decide_eq_false_iff_not] at h1 h2
    have hab : a = b := UInt8.le_antisymm (UInt8.not_lt.1 h2.1) (UInt8.not_lt.1 h1.1)
    subst hab
    simp only [beq_self_eq_true, Bool.true_and] at h1 h2
    rw [bl_tri h1.2 h2.2]
theorem bl_trans : ∀ {x y z : Str}, Op.bytesLess x y = true → Op.bytesLess y z = true → Op.bytesLess x z = true
  | _, [], _, h, _ => by cases ‹List UInt8› <;> simp [Op.bytesLess] at h
  | _, _ :: _, [], _, h => by simp [Op.bytesLess] at h
  | [], _ :: _, _ :: _, _, _ => rfl
  | a :: x, b :: y, c :: z, h1, h2 => by
    simp only [Op.bytesLess, Bool.or_eq_true, decide_eq_true_eq, Bool.and_eq_true, beq_iff_eq] at h1 h2 ⊢
    rcases h1 with h1 | ⟨rfl, h1⟩
    · rcases h2 with h2 | ⟨rfl, h2⟩
      · exact .inl (UInt8.lt_trans h1 h2)
      · exact .inl h1
    · rcases h2 with h2 | ⟨rfl, h2⟩
      · exact .inl h2
      · exact .inr ⟨rfl, bl_trans h1 h2⟩
theorem bl_asymm {x y : Str} (h : Op.bytesLess x y = true) : Op.bytesLess y x = false := by
  cases h2 : Op.bytesLess y x with
  | false => rfl
  | true => have := bl_trans h h2; rw [bl_irr] at this; cases this
theorem bl_ne {x y : Str} (h : Op.bytesLess x y = true) : (x == y) = false := by
  cases h2 : x == y with
  | false => rfl
  | true => rw [eq_of_beq h2, bl_irr] at h; cases h

theorem incrFrom_all : ∀ {l : List Feat} {p : Feat}, incrFrom p l = true → ∀ x ∈ l, Op.bytesLess p.name x.name = true
  | [], _, _, _, h => by cases h
  | y :: l, p, h, x, hx => by
    simp only [incrFrom, Bool.and_eq_true] at h
    rcases List.mem_cons.1 hx with rfl | hx
    · exact h.1
    · exact bl_trans h.1 (incrFrom_all h.2 x hx)
theorem incr_tail {x : Feat} {l : List Feat} (h : incr (x :: l) = true) : incr l = true := by
  cases l with
  | nil => rfl
  | cons y l => simp only [incr, incrFrom, Bool.and_eq_true] at h ⊢; exact h.2

theorem clash_none {x : Feat} {b : List Feat} (h : ∀ y ∈ b, (x.name == y.name) = false) : (b.any fun g => clashes x g) = false := by
  rw [List.any_eq_false]
  intro y hy
  simp [clashes, h y hy]
theorem clash_cons (x : Feat) (a b : List Feat) : clashF (x :: a) b = ((b.any fun g => clashes x g) || clashF a b) := rfl
theorem clash_consR (y : Feat) : ∀ (a b : List Feat), clashF a (y :: b) = ((a.any fun f => clashes f y) || clashF a b)
  | [], _ => rfl
  | x :: a, b => by
    rw [clash_cons, clash_cons, clash_consR y a b, List.any_cons, List.any_cons]
    cases clashes x y <;> cases (b.any fun g => clashes x g) <;> cases (a.any fun f => clashes f y) <;> simp
theorem clash_noneR {y : Feat} {a : List Feat} (h : ∀ x ∈ a, (x.name == y.name) = false) : (a.any fun f => clashes f y) = false := by
  rw [List.any_eq_false]
  intro x hx
  simp [clashes, h x hx]

theorem merge_clash : ∀ (n : Nat) (a b : List Feat), a.length + b.length ≤ n → incr a = true → incr b = true → (mergeF a b).isSome = !clashF a b
  | _, [], b, _, _, _ => by cases b <;> simp [mergeF, clashF]
  | _, x :: a, [], _, _, _ => by
    have : clashF (x :: a) [] = false := by simp [clashF]
    rw [this]; simp [mergeF]
  | 0, x :: a, y :: b, h, _, _ => by simp at h
  | n + 1, x :: a, y :: b, h, ha, hb => by
    have hxa : ∀ z ∈ a, Op.bytesLess x.name z.name = true := incrFrom_all ha
    have hyb : ∀ z ∈ b, Op.bytesLess y.name z.name = true := incrFrom_all hb
    simp only [List.length_cons] at h
    rw [mergeF]
    cases c1 : Op.bytesLess x.name y.name with
    | true =>
      simp only [Option.isSome_map]
      rw [merge_clash n a (y :: b) (by simp only [List.length_cons]; omega) (incr_tail ha) hb, clash_cons, clash_none (x := x) (b := y :: b) (fun z hz => by
        rcases List.mem_cons.1 hz with rfl | hz
        · exact bl_ne c1
        · exact bl_ne (bl_trans c1 (hyb z hz))), Bool.false_or]
    | false =>
      simp only
      cases c2 : Op.bytesLess y.name x.name with
      | true =>
        simp only [Option.isSome_map]
        rw [merge_clash n (x :: a) b (by simp only [List.length_cons]; omega) ha (incr_tail hb), clash_consR, clash_noneR (y := y) (a := x :: a) (fun z hz => by
          rw [str_beq_comm]
          rcases List.mem_cons.1 hz with rfl | hz
          · exact bl_ne c2
          · exact bl_ne (bl_trans c2 (hxa z hz))), Bool.false_or]
      | false =>
        have hn := bl_tri c1 c2
        simp only [hn, beq_self_eq_true, Bool.true_and]
        cases c3 : x.value == y.value with
        | true =>
          simp only [Option.isSome_map]
          rw [merge_clash n a b (by omega) (incr_tail ha) (incr_tail hb), clash_cons, clash_consR, List.any_cons, clash_none (x := x) (b := b) (fun z hz => by rw [hn]; exact bl_ne (hyb z hz)),
            clash_noneR (y := y) (a := a) (fun z hz => by rw [str_beq_comm, ← hn]; exact bl_ne (hxa z hz))]
          simp [clashes, c3]
        | false =>
          simp only [Option.isSome_none]
          rw [clash_cons, List.any_cons]
          simp [clashes, hn, c3]

theorem unify_clash {a b : List Feat} (ha : incr a = true) (hb : incr b = true) : (unifyF a b).isSome = !clashF a b := by
  rw [unifyF, ha, hb]
  exact merge_clash _ a b (Nat.le_refl _) ha hb

/-! A bundle without error -/
theorem errI_zero {α : Type} {F : Nat → α → Int} : ∀ {l : List α} {s : Nat}, errI F s l = 0 → ∀ (k : Nat) (x : α), l[k]? = some x → F (s + k) x = 0
  | [], _, _, k, x, h => by simp at h
  | y :: l, s, h, k, x, hx => by
    rw [errI] at h
    cases hy : F s y == 0 with
    | false =>
      rw [hy] at h
      simp only [Bool.not_false, sel] at h
      rw [h] at hy; simp at hy
    | true =>
      rw [hy] at h
      simp only [Bool.not_true, sel] at h
      cases k with
      | zero => obtain rfl : y = x := by simpa using hx
                exact eq_of_beq hy
      | succ k =>
        have := errI_zero h k x (by simpa using hx)
        rwa [show s + 1 + k = s + (k + 1) by omega] at this
theorem each_zero {α : Type} {F : Nat → α → Int} {most : Int} {l : List α} (h : eachF most F l = 0) : (l.length : Int) ≤ most ∧ ∀ (k : Nat) (x : α), l[k]? = some x → F k x = 0 := by
  unfold eachF at h
  cases hd : decide (most < (l.length : Int)) with
  | true => rw [hd] at h; simp [sel] at h
  | false =>
    rw [hd] at h
    simp only [sel] at h
    refine ⟨by simpa using hd, fun k x hx => ?_⟩
    have := errI_zero h k x hx
    rwa [Nat.zero_add] at this
theorem incr_of : ∀ {l : List Feat}, (∀ (i : Nat) (g f : Feat), l[i]? = some g → l[i + 1]? = some f → Op.bytesLess g.name f.name = true) → incr l = true
  | [], _ => rfl
  | [x], _ => rfl
  | x :: y :: l, h => by
    have h0 := h 0 x y rfl rfl
    have h1 : incr (y :: l) = true := incr_of (fun i g f hg hf => h (i + 1) g f (by simpa using hg) (by simpa using hf))
    simp only [incr, incrFrom, Bool.and_eq_true] at h1 ⊢
    exact ⟨h0, h1⟩
theorem bundle_ok {l : Lex} {b : List Feat} (h : bundleF l b = 0) : b.length ≤ 8 ∧ incr b = true := by
  obtain ⟨h1, h2⟩ := each_zero h
  refine ⟨by omega, incr_of fun i g f hg hf => ?_⟩
  have := h2 (i + 1) f hf
  unfold bunF at this
  split at this
  · exact absurd this (by decide)
  · rw [prevIs_succ hg, prevIs_succ hg] at this
    revert this
    cases (!List.any _ _) with
    | true => intro h; simp [sel] at h
    | false =>
      cases c : g.name == f.name with
      | true => intro h; simp [sel] at h
      | false =>
        cases c2 : Op.bytesLess g.name f.name with
        | true => intro _; rfl
        | false => intro h; simp [sel] at h

end Go.Am
end

section
set_option linter.unusedSimpArgs false
set_option linter.unusedVariables false
set_option maxRecDepth 100000
set_option maxHeartbeats 4000000
namespace Go.Am
open Go.RowKit
attribute [local congr] dsel_congr sel_c1 slc_cong gsel_congr go_congr aft_congr aftD_congr condR_congr backR_congr inR_congr at2_congr
variable {E : REnv} (M : Mach cdec E)

theorem any_first {α : Type} (p : α → Bool) (v : AV) (H : List AObj) (x : Option Out) : ∀ (l : List α) (i : Nat), orE (firstE (fun _ o => sel (p o) (some v) none) i l) H x = sel (l.any p) (some (.ret v, H)) x
  | [], _ => rfl
  | o :: l, i => by
    rw [firstE_cons, orE_orO, orE_sel, orE_some, orE_none, any_first p v H x l, List.any_cons]
    cases p o <;> rfl

theorem uniV_eq (r : Option (List Feat)) : uniV r = .tuple [.slice .any 2 ((r.getD []).map Feat.row), .bool r.isSome] := by cases r <;> rfl

/-! Entries -/
theorem re0 {H H0 : List AObj} {l : Lex} {x : Entry} {n0 : Nat} (hl : l.ok n0) {p q : Nat} {T T2 : TypeId} (hp : H[p]? = some (.cells l.row T)) (hq : H[q]? = some (.cells x.row T2)) {c : Int} {L : List Entry} (hL : ∀ k, k < L.length → l.entries.l[k]? = L[k]?) (hLl : L.length ≤ l.entries.l.length) (hc : CutOk H0 H) (k : List Fra) : ∀ (n i : Nat) (He : List AObj), i + n = L.length →
    M.go a_truchmanref02_entries H0 (.c l_truchmanref02_entries_0 :: .lp ⟨(some [1, 3, 4, 5, 6]), [], false⟩ l_truchmanref02_entries_0 He :: .blk 2 :: .c (.lv [1, 3, 4, 5]) :: k) (kv [(1, .ptr p 0), (3, .int .i64 L.length), (4, .ptr q 0), (5, .int .i64 c), (6, .int .i64 i)]) H =
      orE (firstE (fun _ o => sel (o.lem == x.lem && o.cls == x.cls) (some (.int .u8 6)) none) i (L.drop i)) (H.take H0.length) (M.go a_truchmanref02_entries H0 k (kv [(1, .ptr p 0), (3, .int .i64 L.length), (4, .ptr q 0), (5, .int .i64 c)]) H)
  | 0, i, He, h => by
    have e : i = L.length := by omega
    subst e
    rw [go_head M l_truchmanref02_entries_0.eq_1]
    simp (maxSteps := 3000000) (maxDischargeDepth := 6) +contextual -implicitDefEqProofs only [amA M, amB, ↓slc_true, ↓slc_false, ↓slc_not, ↓fget_at, Nat.reduceBEq, Nat.reduceAdd, env, fargs, q_truchmanref02_entries, Nat.lt_irrefl, List.drop_length]
  | n + 1, i, He, h => by
    have hi : i < L.length := by omega
    have hx : L[i]? = some L[i] := List.getElem?_eq_getElem hi
    have hd : (L.drop i) = L[i] :: L.drop (i + 1) := List.drop_eq_getElem_cons hi
    have hm : L[i] ∈ L := List.getElem_mem hi
    have ih := fun He => re0 (H := H) (H0 := H0) (l := l) (x := x) (n0 := n0) (hl := hl) (p := p) (q := q) (T := T) (T2 := T2) (hp := hp) (hq := hq) (c := c) (L := L) (hL := hL) (hLl := hLl) hc k n (i + 1)  He (by omega)
    simp only [kv_cons, kv_nil] at ih
    have hx2 : l.entries.l[i]? = some L[i] := (hL i hi).trans hx
    rw [go_head M l_truchmanref02_entries_0.eq_1]
    simp (maxSteps := 3000000) (maxDischargeDepth := 6) +contextual -implicitDefEqProofs only [amA M, amB, ↓slc_true, ↓slc_false, ↓slc_not, ↓fget_at, Nat.reduceBEq, Nat.reduceAdd, env, fargs, q_truchmanref02_entries, hx, hd, hi, ih, wrap_s hi (Nat.le_trans hLl hl.entries.len), ias_row (show i < l.entries.l.length by omega), hx2, qLex, qEntry, hp, hq, hc]
theorem re1 {H H0 : List AObj} (hR : RefE E) {x : Entry} {p q : Nat} {T2 : TypeId} (hq : H[q]? = some (.cells x.row T2)) {i0 : Nat} {sl : Sl Slot} (hs : sl.l.length ≤ maxL) (hab : ∀ s ∈ sl.l, x.feats.l.length + s.feats.l.length ≤ 4000000000000) (hc : CutOk H0 H) (k : List Fra) : ∀ (n i : Nat) (He : List AObj), i + n = (sl.l).length →
    M.go a_truchmanref02_entries H0 (.c l_truchmanref02_entries_1 :: .lp ⟨(some [1, 3, 4, 8, 9]), [], false⟩ l_truchmanref02_entries_1 He :: .blk 4 :: .c (.lv [1, 3, 4, 8]) :: k) (kv [(1, .ptr p 0), (3, .int .i64 i0), (4, .ptr q 0), (8, .slice sl.tag 4 (sl.l.map Slot.row)), (9, .int .i64 i)]) H =
      orE (firstE (fun _ s => sel (!(unifyF x.feats.l s.feats.l).isSome) (some (.int .u8 10)) none) i (sl.l.drop i)) (H.take H0.length) (M.go a_truchmanref02_entries H0 k (kv [(1, .ptr p 0), (3, .int .i64 i0), (4, .ptr q 0), (8, .slice sl.tag 4 (sl.l.map Slot.row))]) H)
  | 0, i, He, h => by
    have e : i = (sl.l).length := by omega
    subst e
    rw [go_head M l_truchmanref02_entries_1.eq_1]
    simp (maxSteps := 3000000) (maxDischargeDepth := 6) +contextual -implicitDefEqProofs only [amA M, amB, ↓slc_true, ↓slc_false, ↓slc_not, ↓fget_at, Nat.reduceBEq, Nat.reduceAdd, env, fargs, q_truchmanref02_entries, Nat.lt_irrefl, List.drop_length]
  | n + 1, i, He, h => by
    have hi : i < (sl.l).length := by omega
    have hx : (sl.l)[i]? = some (sl.l)[i] := List.getElem?_eq_getElem hi
    have hd : ((sl.l).drop i) = (sl.l)[i] :: (sl.l).drop (i + 1) := List.drop_eq_getElem_cons hi
    have hm : (sl.l)[i] ∈ (sl.l) := List.getElem_mem hi
    have ih := fun He => re1 (H := H) (H0 := H0) (hR := hR) (x := x) (p := p) (q := q) (T2 := T2) (hq := hq) (i0 := i0) (sl := sl) (hs := hs) (hab := hab) hc k n (i + 1)  He (by omega)
    simp only [kv_cons, kv_nil] at ih
    rw [go_head M l_truchmanref02_entries_1.eq_1]
    simp (maxSteps := 3000000) (maxDischargeDepth := 6) +contextual -implicitDefEqProofs only [amA M, amB, ↓slc_true, ↓slc_false, ↓slc_not, ↓fget_at, Nat.reduceBEq, Nat.reduceAdd, env, fargs, q_truchmanref02_entries, hx, hd, hi, ih, wrap_s hi hs, ias_row hi, qSlot, qEntry, hq, hc, run_rUnify M hR (hab _ hm), uniV_eq]
theorem re2 {H H0 : List AObj} {x : Entry} {f : Irreg} {p q r : Nat} {T2 T3 : TypeId} (hq : H[q]? = some (.cells x.row T2)) (hr : H[r]? = some (.cells f.row T3)) {i0 : Nat} {sv : AV} {L : List Irreg} (hL : ∀ k, k < L.length → x.forms.l[k]? = L[k]?) (hLl : L.length ≤ x.forms.l.length) (hxl : x.forms.l.length ≤ maxL) (hc : CutOk H0 H) (k : List Fra) : ∀ (n i : Nat) (He : List AObj), i + n = L.length →
    M.go a_truchmanref02_entries H0 (.c l_truchmanref02_entries_2 :: .lp ⟨(some [1, 3, 4, 8, 12, 13, 14]), [], false⟩ l_truchmanref02_entries_2 He :: .blk 8 :: .c (.lv [1, 3, 4, 8, 12, 13]) :: k) (kv [(1, .ptr p 0), (3, .int .i64 i0), (4, .ptr q 0), (8, sv), (12, .int .i64 L.length), (13, .ptr r 0), (14, .int .i64 i)]) H =
      orE (firstE (fun _ o => sel (o.slot == f.slot) (some (.int .u8 6)) none) i (L.drop i)) (H.take H0.length) (M.go a_truchmanref02_entries H0 k (kv [(1, .ptr p 0), (3, .int .i64 i0), (4, .ptr q 0), (8, sv), (12, .int .i64 L.length), (13, .ptr r 0)]) H)
  | 0, i, He, h => by
    have e : i = L.length := by omega
    subst e
    rw [go_head M l_truchmanref02_entries_2.eq_1]
    simp (maxSteps := 3000000) (maxDischargeDepth := 6) +contextual -implicitDefEqProofs only [amA M, amB, ↓slc_true, ↓slc_false, ↓slc_not, ↓fget_at, Nat.reduceBEq, Nat.reduceAdd, env, fargs, q_truchmanref02_entries, Nat.lt_irrefl, List.drop_length]
  | n + 1, i, He, h => by
    have hi : i < L.length := by omega
    have hx : L[i]? = some L[i] := List.getElem?_eq_getElem hi
    have hd : (L.drop i) = L[i] :: L.drop (i + 1) := List.drop_eq_getElem_cons hi
    have hm : L[i] ∈ L := List.getElem_mem hi
    have ih := fun He => re2 (H := H) (H0 := H0) (x := x) (f := f) (p := p) (q := q) (r := r) (T2 := T2) (T3 := T3) (hq := hq) (hr := hr) (i0 := i0) (sv := sv) (L := L) (hL := hL) (hLl := hLl) (hxl := hxl) hc k n (i + 1)  He (by omega)
    simp only [kv_cons, kv_nil] at ih
    have hx2 : x.forms.l[i]? = some L[i] := (hL i hi).trans hx
    rw [go_head M l_truchmanref02_entries_2.eq_1]
    simp (maxSteps := 3000000) (maxDischargeDepth := 6) +contextual -implicitDefEqProofs only [amA M, amB, ↓slc_true, ↓slc_false, ↓slc_not, ↓fget_at, Nat.reduceBEq, Nat.reduceAdd, env, fargs, q_truchmanref02_entries, hx, hd, hi, ih, wrap_s hi (Nat.le_trans hLl hxl), ias_row (show i < x.forms.l.length by omega), hx2, qEntry, qIrreg, hq, hr, hc]
theorem take_get {α : Type} (l : List α) (i : Nat) : ∀ k, k < (l.take i).length → l[k]? = (l.take i)[k]? := fun k hk => by
  rw [List.getElem?_take_of_lt]; simp at hk; omega
theorem take_lenE {α : Type} {l : List α} {i : Nat} (h : i ≤ l.length) : (l.take i).length = i := by simp; omega
theorem re3 {H H0 : List AObj} (hN : NamesE E) {x : Entry} {n0 : Nat} (hx0 : x.ok n0) (hn : n0 ≤ H.length) {p q : Nat} (hpl : p < H.length) {T2 : TypeId} (hq : H[q]? = some (.cells x.row T2)) {i0 : Nat} {sl : Sl Slot} (hsw : Wk H.length (.slice sl.tag 4 (sl.l.map Slot.row)) (.slice sl.tag 4 (sl.l.map Slot.row))) (hc : CutOk H0 H) (k : List Fra) : ∀ (n i : Nat), i + n = (x.forms.l).length →
    M.go a_truchmanref02_entries H0 (.c l_truchmanref02_entries_3 :: .lp ⟨(some [1, 3, 4, 8, 12]), [], true⟩ l_truchmanref02_entries_3 H :: .blk 6 :: .c (.lv [1, 3]) :: k) (kv [(1, .ptr p 0), (3, .int .i64 i0), (4, .ptr q 0), (8, .slice sl.tag 4 (sl.l.map Slot.row)), (12, .int .i64 i)]) H =
      orE (firstE (errF (formF sl.l.length x.forms.l)) i (x.forms.l.drop i)) (H.take H0.length) (M.go a_truchmanref02_entries H0 k (kv [(1, .ptr p 0), (3, .int .i64 i0)]) H)
  | 0, i, h => by
    have e : i = (x.forms.l).length := by omega
    subst e
    rw [go_head M l_truchmanref02_entries_3.eq_1]
    simp (maxSteps := 3000000) (maxDischargeDepth := 6) +contextual -implicitDefEqProofs only [amA M, amB, ↓slc_true, ↓slc_false, ↓slc_not, ↓fget_at, Nat.reduceBEq, Nat.reduceAdd, env, fargs, q_truchmanref02_entries, Nat.lt_irrefl, List.drop_length, qEntry, hq]
  | n + 1, i, h => by
    have hi : i < (x.forms.l).length := by omega
    have hx : (x.forms.l)[i]? = some (x.forms.l)[i] := List.getElem?_eq_getElem hi
    have hd : ((x.forms.l).drop i) = (x.forms.l)[i] :: (x.forms.l).drop (i + 1) := List.drop_eq_getElem_cons hi
    have hm : (x.forms.l)[i] ∈ (x.forms.l) := List.getElem_mem hi
    have ih := re3 (H := H) (H0 := H0) (hN := hN) (x := x) (n0 := n0) (hx0 := hx0) (hn := hn) (p := p) (q := q) (hpl := hpl) (T2 := T2) (hq := hq) (i0 := i0) (sl := sl) (hsw := hsw) hc k n (i + 1)  (by omega)
    simp only [kv_cons, kv_nil] at ih
    have hq' := fun L => hp_getl (L := L) hq
    have w1 : Wk H.length (.ptr p 0) (.ptr p 0) := wk_ptr hpl
    have w2 : Wk H.length (.ptr q 0) (.ptr q 0) := wk_ptr (List.getElem?_eq_some_iff.1 hq).1
    have h0 := fun k He => re2 M (H := H ++ [.cells x.forms.l[i].row t_api_Irregular]) (H0 := H0) (x := x) (f := x.forms.l[i]) (p := p) (q := q) (r := H.length) (T2 := T2) (T3 := t_api_Irregular) (hq' _) (by rw [hp_get0]; rfl) (i0 := i0) (sv := .slice sl.tag 4 (sl.l.map Slot.row)) (L := x.forms.l.take i) (take_get _ _) (by simp; omega) hx0.forms.len (cut_more hc _) k (x.forms.l.take i).length 0 He (by omega)
    simp only [kv_cons, kv_nil, Int.ofNat_zero, List.drop_zero, take_lenE (Nat.le_of_lt hi), any_first] at h0
    rw [go_head M l_truchmanref02_entries_3.eq_1]
    simp (maxSteps := 3000000) (maxDischargeDepth := 6) +contextual -implicitDefEqProofs only [amA M, amB, ↓slc_true, ↓slc_false, ↓slc_not, ↓fget_at, Nat.reduceBEq, Nat.reduceAdd, env, fargs, q_truchmanref02_entries, hx, hd, hi, ih, amG, AV.cell, hq, hq', w1, w2, hsw, h0, wrap_s hi hx0.forms.len, ias_row hi, qIrreg, qEntry, run_rPlain' M hN (hx0.forms.all _ hm).word, hc, errF_eO, formF, qE]

end Go.Am
end

section
set_option linter.unusedSimpArgs false
set_option linter.unusedVariables false
set_option maxRecDepth 100000
set_option maxHeartbeats 4000000
namespace Go.Am
open Go.RowKit
attribute [local congr] dsel_congr sel_c1 slc_cong gsel_congr go_congr aft_congr aftD_congr condR_congr backR_congr inR_congr at2_congr
variable {E : REnv} (M : Mach cdec E)

/-- Bundles of slots are short. -/
def Short (l : Lex) : Prop := ∀ c ∈ l.classes.l, ∀ s ∈ c.slots.l, s.feats.l.length ≤ 8 ∧ incr s.feats.l = true
theorem short_of {l : Lex} (h : check2 l = 0) : Short l := fun c hc s hs => by
  obtain ⟨k, hk⟩ := List.getElem?_of_mem hc
  have h1 := (each_zero h).2 k c hk
  unfold classF at h1
  revert h1
  cases (!nameF c.name) with
  | true => intro h; simp [sel] at h
  | false =>
    cases (List.any _ _) with
    | true => intro h; simp [sel] at h
    | false =>
      cases (decide ((24 : Int) < (c.slots.l.length : Int))) with
      | true => intro h; simp [sel] at h
      | false =>
        cases ((c.slots.l.length : Int) == 0) with
        | true => intro h; simp [sel] at h
        | false =>
          intro h1
          obtain ⟨j, hj⟩ := List.getElem?_of_mem hs
          have h2 := (each_zero h1).2 j s hj
          unfold slotF at h2
          revert h2
          cases (decide (s.cut < 0) || decide (24 < s.cut) || !shortF isLo s.pre || !shortF isLo s.add) with
          | true => intro h; simp [sel] at h
          | false => intro h; exact bundle_ok h

theorem any_congr {α : Type} {p q : α → Bool} : ∀ {l : List α}, (∀ x ∈ l, p x = q x) → l.any p = l.any q
  | [], _ => rfl
  | x :: l, h => by rw [List.any_cons, List.any_cons, h x (by simp), any_congr (fun y hy => h y (by simp [hy]))]

theorem re4 {H H0 : List AObj} (hN : NamesE E) (hR : RefE E) {l : Lex} {n0 : Nat} (hl : l.ok n0) (hn : n0 ≤ H.length) (hsh : Short l) {p : Nat} {T : TypeId} (hp : H[p]? = some (.cells l.row T)) (hc : CutOk H0 H) (k : List Fra) : ∀ (n i : Nat), i + n = (l.entries.l).length →
    M.go a_truchmanref02_entries H0 (.c l_truchmanref02_entries_4 :: .lp ⟨(some [1, 3]), [], true⟩ l_truchmanref02_entries_4 H :: .blk 0 :: .c (.lv []) :: k) (kv [(1, .ptr p 0), (3, .int .i64 i)]) H =
      orE (firstE (errF (entryF l)) i (l.entries.l.drop i)) (H.take H0.length) (M.go a_truchmanref02_entries H0 k .leaf H)
  | 0, i, h => by
    have e : i = (l.entries.l).length := by omega
    subst e
    rw [go_head M l_truchmanref02_entries_4.eq_1]
    simp (maxSteps := 3000000) (maxDischargeDepth := 6) +contextual -implicitDefEqProofs only [amA M, amB, ↓slc_true, ↓slc_false, ↓slc_not, ↓fget_at, Nat.reduceBEq, Nat.reduceAdd, env, fargs, q_truchmanref02_entries, Nat.lt_irrefl, List.drop_length, qLex, hp]
  | n + 1, i, h => by
    have hi : i < (l.entries.l).length := by omega
    have hx : (l.entries.l)[i]? = some (l.entries.l)[i] := List.getElem?_eq_getElem hi
    have hd : ((l.entries.l).drop i) = (l.entries.l)[i] :: (l.entries.l).drop (i + 1) := List.drop_eq_getElem_cons hi
    have hm : (l.entries.l)[i] ∈ (l.entries.l) := List.getElem_mem hi
    have ih := re4 (H := H) (H0 := H0) (hN := hN) (hR := hR) (l := l) (n0 := n0) (hl := hl) (hn := hn) (hsh := hsh) (p := p) (T := T) (hp := hp) hc k n (i + 1)  (by omega)
    simp only [kv_cons, kv_nil] at ih
    have hp' := fun L => hp_getl (L := L) hp
    have w1 : Wk H.length (.ptr p 0) (.ptr p 0) := wk_ptr (List.getElem?_eq_some_iff.1 hp).1
    have hx0 := hl.entries.all _ hm
    have hcf := fun H => run_rClass M hR hl l.entries.l[i].cls H
    rcases idxI_cases (fun c : Class => c.name == l.entries.l[i].cls) l.classes.l 0 with ⟨h1, h2⟩ | ⟨j, c, h1, h2, h3⟩
    · rw [h1] at hcf
      have hc2 : clsOf l l.entries.l[i].cls = none := h2
      rw [go_head M l_truchmanref02_entries_4.eq_1]
      simp (maxSteps := 3000000) (maxDischargeDepth := 6) +contextual -implicitDefEqProofs only [amA M, amB, ↓slc_true, ↓slc_false, ↓slc_not, ↓fget_at, Nat.reduceBEq, Nat.reduceAdd, env, fargs, q_truchmanref02_entries, amG, AV.cell, Nat.reduceMul, Nat.reduceLeDiff, hx, hd, hi, ih, hp, hp', w1, hcf, neg1, qLex, qEntry, ias_row hi, run_rPlain' M hN hx0.lem, errF_eO, entryF, hc2, qE, hc]
    · rw [h1, Nat.zero_add] at hcf
      have hc2 : clsOf l l.entries.l[i].cls = some c := h3
      have hj : j < l.classes.l.length := (List.getElem?_eq_some_iff.1 h2).1
      have hcm : c ∈ l.classes.l := List.mem_of_getElem? h2
      have hco := hl.classes.all c hcm
      have hq : ∀ L, (H ++ (.cells l.entries.l[i].row t_api_Entry :: L))[H.length]? = some (.cells l.entries.l[i].row t_api_Entry) := fun L => by rw [hp_get0]; rfl
      have h4 := fun k He => re0 M (H := H ++ [.cells l.entries.l[i].row t_api_Entry]) (H0 := H0) hl (p := p) (q := H.length) (T := T) (T2 := t_api_Entry) (hp' _) (hq []) (c := (j : Int)) (L := l.entries.l.take i) (take_get _ _) (by simp; omega) (cut_more hc _) k (l.entries.l.take i).length 0 He (by omega)
      simp only [kv_cons, kv_nil, Int.ofNat_zero, List.drop_zero, take_lenE (Nat.le_of_lt hi), any_first] at h4
      cases hb : (bundleF l l.entries.l[i].feats.l == 0) with
      | false =>
        rw [go_head M l_truchmanref02_entries_4.eq_1]
        simp (maxSteps := 3000000) (maxDischargeDepth := 6) +contextual -implicitDefEqProofs only [amA M, amB, ↓slc_true, ↓slc_false, ↓slc_not, ↓fget_at, Nat.reduceBEq, Nat.reduceAdd, env, fargs, q_truchmanref02_entries, amG, AV.cell, Nat.reduceMul, Nat.reduceLeDiff, hx, hd, hi, ih, hp, hp', w1, hcf, neg0, h4, hb, qLex, qEntry, ias_row hi, run_rPlain' M hN hx0.lem, run_rbundle M hR hl hx0.feats.len, errF_eO, entryF, hc2, qE, orE_eO, hc]
      | true =>
        obtain ⟨hb1, hb2⟩ := bundle_ok (eq_of_beq hb)
        have h5 := fun k He => re1 M (H := H ++ [.cells l.entries.l[i].row t_api_Entry]) (H0 := H0) hR (x := l.entries.l[i]) (p := p) (q := H.length) (T2 := t_api_Entry) (hq []) (i0 := i) (sl := c.slots) hco.slots.len (fun s hs => by have := (hsh c hcm s hs).1; omega) (cut_more hc _) k c.slots.l.length 0 He (by omega)
        have h6 := fun k => re3 M (H := H ++ [.cells l.entries.l[i].row t_api_Entry]) (H0 := H0) hN hx0 (by simp; omega) (p := p) (q := H.length) (by have := (List.getElem?_eq_some_iff.1 hp).1; simp; omega) (T2 := t_api_Entry) (hq []) (i0 := i) (sl := c.slots) ((hco.slots.mono (show n0 ≤ _ by simp; omega) (fun _ h => h.mono (show n0 ≤ (H ++ [AObj.cells l.entries.l[i].row t_api_Entry]).length by simp; omega))).wk (fun _ h => h.wk)) (cut_more hc _) k l.entries.l[i].forms.l.length 0 (by omega)
        have e5 : (c.slots.l.any fun s => !(unifyF l.entries.l[i].feats.l s.feats.l).isSome) = c.slots.l.any fun s => clashF l.entries.l[i].feats.l s.feats.l := any_congr fun s hs => by rw [unify_clash hb2 (hsh c hcm s hs).2, Bool.not_not]
        simp only [kv_cons, kv_nil, Int.ofNat_zero, List.drop_zero, any_first, e5] at h5 h6
        rw [go_head M l_truchmanref02_entries_4.eq_1]
        simp (maxSteps := 3000000) (maxDischargeDepth := 6) +contextual -implicitDefEqProofs only [amA M, amB, ↓slc_true, ↓slc_false, ↓slc_not, ↓fget_at, Nat.reduceBEq, Nat.reduceAdd, env, fargs, q_truchmanref02_entries, amG, AV.cell, Nat.reduceMul, Nat.reduceLeDiff, hx, hd, hi, ih, hp, hp', w1, hcf, neg0, h4, h5, h6, hb, h2, ias_row hj, qLex, qEntry, qClass, ias_row hi, wrap_s hi hl.entries.len, run_rPlain' M hN hx0.lem, run_rbundle M hR hl hx0.feats.len, errF_eO, entryF, hc2, qE, eO_errI, hc]

end Go.Am
end

section
set_option linter.unusedSimpArgs false
set_option linter.unusedVariables false
set_option maxRecDepth 100000
set_option maxHeartbeats 4000000
namespace Go.Am
open Go.RowKit
attribute [local congr] dsel_congr sel_c1 slc_cong gsel_congr go_congr aft_congr aftD_congr condR_congr backR_congr inR_congr at2_congr
variable {E : REnv} (M : Mach cdec E)

theorem run_rentries (hN : NamesE E) (hR : RefE E) {l : Lex} {n : Nat} (hl : l.ok n) (hsh : Short l) {H : List AObj} (hn : n ≤ H.length) : M.run f_truchmanref02_entries [.agg l.row] H = some (.ret (.int .u8 (check3 l)), H) := by
  rw [run_c M hR.truchmanref02_entries rfl (c := c_truchmanref02_entries) rfl, c_truchmanref02_entries]
  have h1 := fun k => re4 M hN hR (H := H ++ [.cells l.row t_api_Lexicon]) hl (by simp; omega) hsh (p := H.length) (T := t_api_Lexicon) (by rw [hp_get0]; rfl) (cut_app H _) k l.entries.l.length 0 (by omega)
  simp only [kv_cons, kv_nil, Int.ofNat_zero, List.drop_zero] at h1
  simp (maxSteps := 3000000) (maxDischargeDepth := 6) +contextual -implicitDefEqProofs only [amA M, amB, ↓slc_true, ↓slc_false, ↓slc_not, ↓fget_at, Nat.reduceBEq, Nat.reduceAdd, env, fargs, q_truchmanref02_entries, h1, qLex, cut_app, err_first0, sel_int, check3, eachF]

/-! Vowels -/
def incVF (p : UInt8) : Str → Bool
  | [] => true
  | c :: t => !decide ((c.toNat : Int) ≤ (p.toNat : Int)) && incVF c t
def incV : Str → Bool
  | [] => true
  | c :: t => incVF c t
def geV (v : Str) : Nat → UInt8 → Option AV
  | 0, _ => none
  | i + 1, c => match v[i]? with
    | some d => sel (decide ((c.toNat : Int) ≤ (d.toNat : Int))) (some (.int .u8 1)) none
    | none => none
theorem geV_succ {v : Str} {i : Nat} {d : UInt8} (h : v[i]? = some d) (c : UInt8) : geV v (i + 1) c = sel (decide ((c.toNat : Int) ≤ (d.toNat : Int))) (some (.int .u8 1)) none := by simp only [geV, h]
theorem drop_next {α : Type} {b l : List α} {i : Nat} {x : α} (hd : b.drop (i + 1) = x :: l) : b[i + 1]? = some x ∧ b.drop (i + 1 + 1) = l := by
  constructor
  · have := List.getElem?_drop (xs := b) (i := i + 1) (j := 0)
    rw [hd] at this; simpa using this.symm
  · have : (b.drop (i + 1)).drop 1 = l := by rw [hd]; rfl
    rwa [List.drop_drop] at this
theorem geV_first (v : Str) : ∀ (t : Str) (i : Nat) (p : UInt8), v[i]? = some p → v.drop (i + 1) = t → firstE (geV v) (i + 1) t = sel (incVF p t) none (some (.int .u8 1))
  | [], _, _, _, _ => rfl
  | c :: t, i, p, h, hd => by
    obtain ⟨h2, hd2⟩ := drop_next hd
    rw [firstE_cons, geV_succ h, geV_first v t (i + 1) c h2 hd2, incVF]
    cases decide ((c.toNat : Int) ≤ (p.toNat : Int)) <;> cases incVF c t <;> rfl
theorem geV_first1 (v : Str) (H : List AObj) (x : Option Out) : orE (firstE (geV v) 1 (v.drop 1)) H x = sel (incV v) x (some (.ret (.int .u8 1), H)) := by
  cases v with
  | nil => rfl
  | cons c t =>
    rw [show List.drop 1 (c :: t) = t from rfl, geV_first (c :: t) t 0 c rfl rfl, incV]
    cases incVF c t <;> rfl
theorem vow_from (v : Str) : ∀ (t : Str) (i : Nat) (p : UInt8), v[i]? = some p → v.drop (i + 1) = t → errI (fun i c => sel (badV v i c) 1 0) (i + 1) t = sel (t.all isLo && incVF p t) 0 1
  | [], _, _, _, _ => rfl
  | c :: t, i, p, h, hd => by
    obtain ⟨h2, hd2⟩ := drop_next hd
    rw [errI, vow_from v t (i + 1) c h2 hd2, badV_succ h, List.all_cons, incVF]
    cases isLo c <;> cases decide ((c.toNat : Int) ≤ (p.toNat : Int)) <;> cases t.all isLo <;> cases incVF c t <;> rfl
theorem vowF_eq (l : Lex) : vowF l = sel (ofF [] l.vowels) (sel (incV l.vowels) 0 1) 1 := by
  rw [vowF, ofF_nil]
  cases hv : l.vowels with
  | nil => rfl
  | cons c t =>
    rw [errI, vow_from (c :: t) t 0 c rfl rfl, badV_zero, List.all_cons, incV]
    cases isLo c <;> cases t.all isLo <;> cases incVF c t <;> rfl
theorem rck0 {H H0 : List AObj} {l : Lex} {n0 : Nat} (hl : l.ok n0) {p : Nat} {T : TypeId} (hp : H[p]? = some (.cells l.row T)) (hc : CutOk H0 H) (k : List Fra) : ∀ (n i : Nat) (h1 : 1 ≤ i) (He : List AObj), (l.vowels).length - i = n →
    M.go a_truchmanref02_Check H0 (.c l_truchmanref02_Check_0 :: .lp ⟨(some [1, 3]), [], false⟩ l_truchmanref02_Check_0 He :: .blk 0 :: .c (.lv [1]) :: k) (kv [(1, .ptr p 0), (3, .int .i64 i)]) H =
      orE (firstE (geV l.vowels) i (l.vowels.drop i)) (H.take H0.length) (M.go a_truchmanref02_Check H0 k (kv [(1, .ptr p 0)]) H)
  | 0, i, h1, He, h => by
    have e : ¬ i < (l.vowels).length := by omega
    have e2 : (l.vowels).drop i = [] := List.drop_of_length_le (by omega)
    rw [go_head M l_truchmanref02_Check_0.eq_1]
    simp (maxSteps := 3000000) (maxDischargeDepth := 6) +contextual -implicitDefEqProofs only [amA M, amB, ↓slc_true, ↓slc_false, ↓slc_not, ↓fget_at, Nat.reduceBEq, Nat.reduceAdd, env, fargs, q_truchmanref02_Check, e, e2, qLex, hp]
  | n + 1, i, h1, He, h => by
    have hi : i < (l.vowels).length := by omega
    have hx : (l.vowels)[i]? = some (l.vowels)[i] := List.getElem?_eq_getElem hi
    have hd : ((l.vowels).drop i) = (l.vowels)[i] :: (l.vowels).drop (i + 1) := List.drop_eq_getElem_cons hi
    have hm : (l.vowels)[i] ∈ (l.vowels) := List.getElem_mem hi
    have ih := fun h1 He => rck0 (H := H) (H0 := H0) (l := l) (n0 := n0) (hl := hl) (p := p) (T := T) (hp := hp) hc k n (i + 1) h1 He (by omega)
    simp only [kv_cons, kv_nil] at ih
    have ih := ih (by omega)
    cases i with
    | zero => omega
    | succ i =>
      have hx1 : l.vowels[i]? = some l.vowels[i] := List.getElem?_eq_getElem (by omega)
      have hlv := hl.vowels
      rw [go_head M l_truchmanref02_Check_0.eq_1]
      simp (maxSteps := 3000000) (maxDischargeDepth := 6) +contextual -implicitDefEqProofs only [amA M, amB, ↓slc_true, ↓slc_false, ↓slc_not, ↓fget_at, Nat.reduceBEq, Nat.reduceAdd, env, fargs, q_truchmanref02_Check, hx, hd, hi, ih, hp, qLex, hx1, wrap_p (show i + 1 ≤ maxL by omega), wrap_s hi hlv, geV_succ hx1, hc]

/-! Spelling rules, links -/
theorem of_sym (s : Str) : ofF [43] s = s.all isSym := by
  unfold ofF
  congr 1; funext c
  simp only [List.any_cons, List.any_nil, Bool.or_false, isSym]
  congr 1
  rw [Bool.eq_iff_iff]; simp; omega
theorem of_aro (s : Str) : ofF [43, 35, 86, 67] s = s.all isAro := by
  unfold ofF
  congr 1; funext c
  simp only [List.any_cons, List.any_nil, Bool.or_false, isAro, isSym, Bool.or_assoc]
  congr 1
  rw [Bool.eq_iff_iff]; simp; omega
theorem shortF_of (p : UInt8 → Bool) (s : Str) : shortF p s = (!decide ((6 : Int) < (s.length : Int)) && s.all p) := by
  unfold shortF; congr 1; rw [Bool.eq_iff_iff]; simp
theorem spell_eq (x : Spell) : spellF x = sel (x.frm == [] || (!ofF [43] x.frm || (!ofF [43] x.to || (!ofF [43, 35, 86, 67] x.left || !ofF [43, 35, 86, 67] x.right)))) 1
    (sel (decide ((6 : Int) < (x.frm.length : Int)) || (decide ((6 : Int) < (x.to.length : Int)) || (decide ((6 : Int) < (x.left.length : Int)) || decide ((6 : Int) < (x.right.length : Int))))) 1 0) := by
  rw [spellF, of_sym, of_sym, of_aro, of_aro, shortF_of, shortF_of, shortF_of, shortF_of]
  cases x.frm == [] <;> cases x.frm.all isSym <;> cases x.to.all isSym <;> cases x.left.all isAro <;> cases x.right.all isAro <;> cases decide ((6 : Int) < (x.frm.length : Int)) <;> cases decide ((6 : Int) < (x.to.length : Int)) <;> cases decide ((6 : Int) < (x.left.length : Int)) <;> cases decide ((6 : Int) < (x.right.length : Int)) <;> rfl
theorem rck1 {H H0 : List AObj} (hN : NamesE E) {l : Lex} {n0 : Nat} (hl : l.ok n0) {p : Nat} {T : TypeId} (hp : H[p]? = some (.cells l.row T)) (hc : CutOk H0 H) (k : List Fra) : ∀ (n i : Nat), i + n = (l.spells.l).length →
    M.go a_truchmanref02_Check H0 (.c l_truchmanref02_Check_1 :: .lp ⟨(some [1, 7]), [], true⟩ l_truchmanref02_Check_1 H :: .blk 2 :: .c (.lv [1]) :: k) (kv [(1, .ptr p 0), (7, .int .i64 i)]) H =
      orE (firstE (errF fun _ x => spellF x) i (l.spells.l.drop i)) (H.take H0.length) (M.go a_truchmanref02_Check H0 k (kv [(1, .ptr p 0)]) H)
  | 0, i, h => by
    have e : i = (l.spells.l).length := by omega
    subst e
    rw [go_head M l_truchmanref02_Check_1.eq_1]
    simp (maxSteps := 3000000) (maxDischargeDepth := 6) +contextual -implicitDefEqProofs only [amA M, amB, ↓slc_true, ↓slc_false, ↓slc_not, ↓fget_at, Nat.reduceBEq, Nat.reduceAdd, env, fargs, q_truchmanref02_Check, Nat.lt_irrefl, List.drop_length, qLex, hp]
  | n + 1, i, h => by
    have hi : i < (l.spells.l).length := by omega
    have hx : (l.spells.l)[i]? = some (l.spells.l)[i] := List.getElem?_eq_getElem hi
    have hd : ((l.spells.l).drop i) = (l.spells.l)[i] :: (l.spells.l).drop (i + 1) := List.drop_eq_getElem_cons hi
    have hm : (l.spells.l)[i] ∈ (l.spells.l) := List.getElem_mem hi
    have ih := rck1 (H := H) (H0 := H0) (hN := hN) (l := l) (n0 := n0) (hl := hl) (p := p) (T := T) (hp := hp) hc k n (i + 1)  (by omega)
    simp only [kv_cons, kv_nil] at ih
    have hp' := fun L => hp_getl (L := L) hp
    have w1 : Wk H.length (.ptr p 0) (.ptr p 0) := wk_ptr (List.getElem?_eq_some_iff.1 hp).1
    have hx0 := hl.spells.all _ hm
    have e1 := spell_eq l.spells.l[i]
    rw [go_head M l_truchmanref02_Check_1.eq_1]
    simp (maxSteps := 3000000) (maxDischargeDepth := 6) +contextual -implicitDefEqProofs only [amA M, amB, ↓slc_true, ↓slc_false, ↓slc_not, ↓fget_at, Nat.reduceBEq, Nat.reduceAdd, env, fargs, q_truchmanref02_Check, hx, hd, hi, ih, amG, AV.cell, hp, hp', w1, wrap_s hi hl.spells.len, ias_row hi, qLex, qSpell, run_of M hN hx0.frm (more := [43]) (by simp [maxL]), run_of M hN hx0.to (more := [43]) (by simp [maxL]), run_of M hN hx0.left (more := [43, 35, 86, 67]) (by simp [maxL]), run_of M hN hx0.right (more := [43, 35, 86, 67]) (by simp [maxL]), errF_eO, e1, Bool.or_assoc, qE, hc]
theorem link_eq (l : Lex) (x : Link) : linkF l x = sel (decide (idxI (fun t => t.name == x.cls) 0 l.classes.l < 0)) 5 (sel (!ofF [] x.glue || decide ((6 : Int) < (x.glue.length : Int))) 1 (bundleF l x.feats.l)) := by
  rw [← shortF_lo]
  unfold linkF clsOf
  rcases idxI_cases (fun t : Class => t.name == x.cls) l.classes.l 0 with ⟨h1, h2⟩ | ⟨j, c, h1, h2, h3⟩
  · rw [h1, h2]; rfl
  · rw [h1, h3, neg0]; rfl
theorem rck2 {H H0 : List AObj} (hN : NamesE E) (hR : RefE E) {l : Lex} {n0 : Nat} (hl : l.ok n0) {p : Nat} {T : TypeId} (hp : H[p]? = some (.cells l.row T)) (hc : CutOk H0 H) (k : List Fra) : ∀ (n i : Nat), i + n = (l.links.l).length →
    M.go a_truchmanref02_Check H0 (.c l_truchmanref02_Check_2 :: .lp ⟨(some [1, 9]), [], true⟩ l_truchmanref02_Check_2 H :: .blk 4 :: .c (.lv []) :: k) (kv [(1, .ptr p 0), (9, .int .i64 i)]) H =
      orE (firstE (errF fun _ x => linkF l x) i (l.links.l.drop i)) (H.take H0.length) (M.go a_truchmanref02_Check H0 k .leaf H)
  | 0, i, h => by
    have e : i = (l.links.l).length := by omega
    subst e
    rw [go_head M l_truchmanref02_Check_2.eq_1]
    simp (maxSteps := 3000000) (maxDischargeDepth := 6) +contextual -implicitDefEqProofs only [amA M, amB, ↓slc_true, ↓slc_false, ↓slc_not, ↓fget_at, Nat.reduceBEq, Nat.reduceAdd, env, fargs, q_truchmanref02_Check, Nat.lt_irrefl, List.drop_length, qLex, hp]
  | n + 1, i, h => by
    have hi : i < (l.links.l).length := by omega
    have hx : (l.links.l)[i]? = some (l.links.l)[i] := List.getElem?_eq_getElem hi
    have hd : ((l.links.l).drop i) = (l.links.l)[i] :: (l.links.l).drop (i + 1) := List.drop_eq_getElem_cons hi
    have hm : (l.links.l)[i] ∈ (l.links.l) := List.getElem_mem hi
    have ih := rck2 (H := H) (H0 := H0) (hN := hN) (hR := hR) (l := l) (n0 := n0) (hl := hl) (p := p) (T := T) (hp := hp) hc k n (i + 1)  (by omega)
    simp only [kv_cons, kv_nil] at ih
    have hp' := fun L => hp_getl (L := L) hp
    have w1 : Wk H.length (.ptr p 0) (.ptr p 0) := wk_ptr (List.getElem?_eq_some_iff.1 hp).1
    have hx0 := hl.links.all _ hm
    have e1 := link_eq l l.links.l[i]
    rw [go_head M l_truchmanref02_Check_2.eq_1]
    simp (maxSteps := 3000000) (maxDischargeDepth := 6) +contextual -implicitDefEqProofs only [amA M, amB, ↓slc_true, ↓slc_false, ↓slc_not, ↓fget_at, Nat.reduceBEq, Nat.reduceAdd, env, fargs, q_truchmanref02_Check, hx, hd, hi, ih, amG, AV.cell, hp, hp', w1, wrap_s hi hl.links.len, ias_row hi, qLex, qLink, run_rClass M hR hl, run_of M hN hx0.glue (more := []) (by simp), run_rbundle M hR hl hx0.feats.len, errF_eO, e1, qE, orE_eO, hc]

end Go.Am
end

section
set_option linter.unusedSimpArgs false
set_option linter.unusedVariables false
set_option maxRecDepth 100000
set_option maxHeartbeats 4000000
namespace Go.Am
open Go.RowKit
attribute [local congr] dsel_congr sel_c1 slc_cong gsel_congr go_congr aft_congr aftD_congr condR_congr backR_congr inR_congr at2_congr
variable {E : REnv} (M : Mach cdec E)

theorem errI1 (e : Int) (i : Nat) (l : List Int) : errI (fun _ e => e) i (e :: l) = sel (!(e == 0)) e (errI (fun _ e => e) (i + 1) l) := rfl
theorem errI0 (i : Nat) : errI (fun _ (e : Int) => e) i [] = 0 := rfl
theorem run_rCheck (hN : NamesE E) (hR : RefE E) {l : Lex} {n : Nat} (hl : l.ok n) {H : List AObj} (hn : n ≤ H.length) : M.run f_truchmanref02_Check [.agg l.row] H = some (.ret (.int .u8 (checkF l)), H) := by
  rw [run_c M hR.truchmanref02_Check rfl (c := c_truchmanref02_Check) rfl, c_truchmanref02_Check]
  have hp : (H ++ [AObj.cells l.row t_api_Lexicon])[H.length]? = some (.cells l.row t_api_Lexicon) := by rw [hp_get0]; rfl
  have h0 := fun k He => rck0 M hl hp (cut_app H _) k (l.vowels.length - 1) 1 (by omega) He rfl
  have h1 := fun k => rck1 M hN hl hp (cut_app H _) k l.spells.l.length 0 (by omega)
  have h2 := fun k => rck2 M hN hR hl hp (cut_app H _) k l.links.l.length 0 (by omega)
  simp only [kv_cons, kv_nil, Int.ofNat_zero, (show ((1 : Nat) : Int) = 1 from rfl), List.drop_zero, geV_first1] at h0 h1 h2
  have ho := run_of M hN hl.vowels (more := []) (by simp)
  have e1 : errI (fun _ e => e) 0 [vowF l, check1 l, check2 l, check3 l, check4 l, check5 l] = sel (ofF [] l.vowels) (sel (incV l.vowels) (sel (!(check1 l == 0)) (check1 l) (sel (!(check2 l == 0)) (check2 l) (sel (!(check3 l == 0)) (check3 l) (sel (!(check4 l == 0)) (check4 l) (check5 l))))) 1) 1 := by
    simp only [errI1, errI0, vowF_eq]
    cases ofF [] l.vowels with
    | false => rfl
    | true =>
      cases incV l.vowels with
      | false => rfl
      | true =>
        simp only [sel]
        cases h5 : check5 l == 0 with
        | false => rfl
        | true => rw [eq_of_beq h5]; rfl
  rw [checkF, e1]
  cases hb : check2 l == 0 with
  | false =>
    simp (maxSteps := 3000000) (maxDischargeDepth := 6) +contextual -implicitDefEqProofs only [amA M, amB, ↓slc_true, ↓slc_false, ↓slc_not, ↓fget_at, Nat.reduceBEq, Nat.reduceAdd, env, fargs, q_truchmanref02_Check, h0, qLex, ho, run_rtraits M hN hR hl, run_rclasses M hN hR hl, hb]
  | true =>
    have hsh := short_of (eq_of_beq hb)
    have e4 : check4 l = sel (decide ((16 : Int) < (l.spells.l.length : Int))) 3 (errI (fun _ x => spellF x) 0 l.spells.l) := rfl
    have e5 : check5 l = sel (decide ((8 : Int) < (l.links.l.length : Int))) 3 (errI (fun _ x => linkF l x) 0 l.links.l) := rfl
    have h1' : ∀ (x : Option Out), orE (firstE (errF fun _ x => spellF x) 0 l.spells.l) H x = sel (errI (fun _ x => spellF x) 0 l.spells.l == 0) x (some (.ret (.int .u8 (errI (fun _ x => spellF x) 0 l.spells.l)), H)) := fun x => by
      rw [← eO_errI, orE_eO]
    simp (maxSteps := 3000000) (maxDischargeDepth := 6) +contextual -implicitDefEqProofs only [amA M, amB, ↓slc_true, ↓slc_false, ↓slc_not, ↓fget_at, Nat.reduceBEq, Nat.reduceAdd, env, fargs, q_truchmanref02_Check, h0, h1, h2, h1', qLex, ho, run_rtraits M hN hR hl, run_rclasses M hN hR hl, run_rentries M hN hR hl hsh, hn, hb, err_first0]
    rw [e4, e5]
    cases decide ((16 : Int) < (l.spells.l.length : Int)) <;> cases decide ((8 : Int) < (l.links.l.length : Int)) <;> simp only [sel, slc] <;> rfl

end Go.Am
end

section
set_option linter.unusedSimpArgs false
set_option linter.unusedVariables false
set_option maxRecDepth 100000
set_option maxHeartbeats 4000000
namespace Go.Am
open Go.RowKit
attribute [local congr] dsel_congr sel_c1 slc_cong gsel_congr go_congr aft_congr aftD_congr condR_congr backR_congr inR_congr at2_congr
variable {E : REnv} (M : Mach cdec E)

abbrev w64 (n : Int) : Int := IntKind.i64.wrap n

theorem cut_cell {H L : List AObj} {k k' : IntKind} {a b : Int} {T T' : TypeId} (L2 : List AObj) : CutOk (H ++ (.cells [.int k a] T :: L)) (H ++ (.cells [.int k' b] T' :: (L ++ L2))) :=
  ⟨by simp, fun i x hi hx => by
    rcases Nat.lt_trichotomy i H.length with h | h | h
    · left; rw [List.getElem?_append_left h] at hx ⊢; exact hx
    · subst h; rw [hp_get0] at hx; right
      obtain rfl : _ = x := by simpa using hx
      intro c hc
      simp only [List.mem_singleton] at hc
      subst hc; exact wk_int _ _ _
    · left
      obtain ⟨j, rfl⟩ : ∃ j, i = H.length + (j + 1) := ⟨i - H.length - 1, by omega⟩
      rw [hp_getk] at hx ⊢
      simp only [List.getElem?_cons_succ] at hx ⊢
      have : j < L.length := by simp at hi; omega
      rwa [List.getElem?_append_left this] at hx⟩
theorem cut_cell0 {H : List AObj} {k k' : IntKind} {a b : Int} {T T' : TypeId} (L2 : List AObj) : CutOk (H ++ [.cells [.int k a] T]) (H ++ (.cells [.int k' b] T' :: L2)) := cut_cell (L := []) L2
theorem cut_cellS {H L : List AObj} {k k' : IntKind} {a b : Int} {T T' : TypeId} : CutOk (H ++ (.cells [.int k a] T :: L)) (H ++ (.cells [.int k' b] T' :: L)) := by
  have := cut_cell (H := H) (L := L) (k := k) (k' := k') (a := a) (b := b) (T := T) (T' := T') []
  rwa [List.append_nil] at this
theorem take_S (H L : List AObj) (y : AObj) : (H ++ (y :: L)).take (H.length + (L.length + 1)) = H ++ (y :: L) := List.take_of_length_le (by simp)
theorem take_1 (H L : List AObj) (y : AObj) : (H ++ (y :: L)).take (H.length + 1) = H ++ [y] := by
  rw [List.take_append]; simp
  exact List.take_of_length_le (by omega)
theorem take_01 (H L : List AObj) (y : AObj) : (H ++ (y :: L)).take (H.length + (0 + 1)) = H ++ [y] := take_1 H L y

def featN (m : Int) (f : Feat) : Int := w64 (m + w64 (w64 (1 + (f.name.length : Int)) + (f.value.length : Int)))
def featsN (m : Int) (b : List Feat) : Int := w64 ((b.take 100).foldl featN m + (b.length : Int))
theorem lt_and0 {n m : Nat} (h : m = min 100 n) : (decide (m < n) && decide ((m : Int) < 100)) = false := by
  rw [Bool.eq_false_iff]; simp; omega
theorem lt_100 {i m n : Nat} (h : m = min 100 n) (hi : i < m) : decide ((i : Int) < 100) = true := decide_eq_true (by omega)
theorem gr1 {H H0 : List AObj} {L : List AObj} {T : TypeId} {b Lf : List Feat} (hM : Lf.length = min 100 b.length) (hL : ∀ k, k < Lf.length → b[k]? = Lf[k]?) {tg : Tag} (k : List Fra) : ∀ (n i : Nat) (m : Int) (He : List AObj), i + n = Lf.length →
    M.go a_truchmanlaw02_Great_1 H0 (.c l_truchmanlaw02_Great_1_0 :: .lp ⟨(some [0, 1, 3]), [], false⟩ l_truchmanlaw02_Great_1_0 He :: .blk 0 :: .c (.lv [0, 1]) :: k) (kv [(0, .slice tg 2 (b.map Feat.row)), (1, .ptr H.length 0), (3, .int .i64 i)]) (H ++ (.cells [.int .i64 m] T :: L)) =
      (M.go a_truchmanlaw02_Great_1 H0 k (kv [(0, .slice tg 2 (b.map Feat.row)), (1, .ptr H.length 0)]) (H ++ (.cells [.int .i64 ((Lf.drop i).foldl featN m)] T :: L)))
  | 0, i, m, He, h => by
    have e : i = Lf.length := by omega
    subst e
    rw [go_head M l_truchmanlaw02_Great_1_0.eq_1]
    simp (maxSteps := 3000000) (maxDischargeDepth := 6) +contextual -implicitDefEqProofs only [amA M, amB, ↓slc_true, ↓slc_false, ↓slc_not, ↓fget_at, Nat.reduceBEq, Nat.reduceAdd, env, fargs, q_truchmanlaw02_Great_1, Nat.lt_irrefl, List.drop_length, lt_and0 hM, List.foldl_nil]
  | n + 1, i, m, He, h => by
    have hi : i < Lf.length := by omega
    have hx : Lf[i]? = some Lf[i] := List.getElem?_eq_getElem hi
    have hd : (Lf.drop i) = Lf[i] :: Lf.drop (i + 1) := List.drop_eq_getElem_cons hi
    have hm : Lf[i] ∈ Lf := List.getElem_mem hi
    have ih := fun m He => gr1 (H := H) (H0 := H0) (L := L) (T := T) (b := b) (Lf := Lf) (hM := hM) (hL := hL) (tg := tg) k n (i + 1) m He (by omega)
    simp only [kv_cons, kv_nil] at ih
    have hib : i < b.length := by omega
    have hxb := (hL i hi).trans hx
    rw [go_head M l_truchmanlaw02_Great_1_0.eq_1]
    simp (maxSteps := 3000000) (maxDischargeDepth := 6) +contextual -implicitDefEqProofs only [amA M, amB, ↓slc_true, ↓slc_false, ↓slc_not, ↓fget_at, Nat.reduceBEq, Nat.reduceAdd, env, fargs, q_truchmanlaw02_Great_1, hx, hd, hi, ih, amG, AV.cell, hib, hxb, lt_100 hM hi, ias_row hib, qFeat, wrap_s (n := 100) (show i < 100 by omega) (by simp [maxL]), List.foldl_cons, featN]
theorem run_Great1 (hg : E.fn f_truchmanlaw02_Great_1 = some a_truchmanlaw02_Great_1) {b : List Feat} {tg : Tag} (H L : List AObj) (m : Int) (T : TypeId) :
    M.run f_truchmanlaw02_Great_1 [.slice tg 2 (b.map Feat.row), .ptr H.length 0] (H ++ (.cells [.int .i64 m] T :: L)) = some (.ret (.tuple []), H ++ (.cells [.int .i64 (featsN m b)] T :: L)) := by
  rw [run_c M hg rfl (c := c_truchmanlaw02_Great_1) rfl, c_truchmanlaw02_Great_1]
  have h1 := fun k He => gr1 M (H := H) (H0 := H ++ (.cells [.int .i64 m] T :: L)) (L := L) (T := T) (b := b) (Lf := b.take 100) (by simp) (take_get b 100) (tg := tg) k (b.take 100).length 0 m He (by omega)
  simp only [kv_cons, kv_nil, Int.ofNat_zero, List.drop_zero] at h1
  simp (maxSteps := 3000000) (maxDischargeDepth := 6) +contextual -implicitDefEqProofs only [amA M, amB, ↓slc_true, ↓slc_false, ↓slc_not, ↓fget_at, Nat.reduceBEq, Nat.reduceAdd, env, fargs, q_truchmanlaw02_Great_1, amG, AV.cell, Nat.reduceMul, Nat.reduceLeDiff, h1, cut_cellS, take_S, wk_tuple, featsN, lr_row1, List.set_cons_zero]

end Go.Am
end

section
set_option linter.unusedSimpArgs false
set_option linter.unusedVariables false
set_option maxRecDepth 100000
set_option maxHeartbeats 4000000
namespace Go.Am
open Go.RowKit
attribute [local congr] dsel_congr sel_c1 slc_cong gsel_congr go_congr aft_congr aftD_congr condR_congr backR_congr inR_congr at2_congr
variable {E : REnv} (M : Mach cdec E)

structure GreatE (E : REnv) : Prop where
  truchmanlaw02_Great_1 : E.fn f_truchmanlaw02_Great_1 = some a_truchmanlaw02_Great_1
  truchmanlaw02_Great : E.fn f_truchmanlaw02_Great = some a_truchmanlaw02_Great

abbrev nCell (m : Int) : AObj := .cells [.int .i64 m] t_int
abbrev cloG (n : Nat) : AV := .fn (.func f_truchmanlaw02_Great_1) [] [.ptr n 0]
def strN (m : Int) (s : Str) : Int := w64 (m + w64 (1 + (s.length : Int)))
def traitN (m : Int) (t : Trait) : Int := w64 ((t.values.l.take 100).foldl strN (w64 (m + w64 (1 + (t.name.length : Int)))) + (t.values.l.length : Int))
theorem gl0 {H H0 : List AObj} {l : Lex} {p : Nat} {T : TypeId} (hp : H[p]? = some (.cells l.row T)) {i0 : Nat} {t : Trait} (ht : l.traits.l[i0]? = some t) {Lf : List Str} (hM : Lf.length = min 100 t.values.l.length) (hL : ∀ k, k < Lf.length → t.values.l[k]? = Lf[k]?) (k : List Fra) : ∀ (n i : Nat) (m : Int) (He : List AObj), i + n = Lf.length →
    M.go a_truchmanlaw02_Great H0 (.c l_truchmanlaw02_Great_0 :: .lp ⟨(some [1, 3, 4, 5, 6]), [], false⟩ l_truchmanlaw02_Great_0 He :: .blk 2 :: .c (.lv [1, 3, 4, 5]) :: k) (kv [(1, .ptr p 0), (3, .ptr H.length 0), (4, cloG H.length), (5, .int .i64 i0), (6, .int .i64 i)]) (H ++ [nCell m]) =
      (M.go a_truchmanlaw02_Great H0 k (kv [(1, .ptr p 0), (3, .ptr H.length 0), (4, cloG H.length), (5, .int .i64 i0)]) (H ++ [nCell ((Lf.drop i).foldl strN m)]))
  | 0, i, m, He, h => by
    have e : i = Lf.length := by omega
    subst e
    rw [go_head M l_truchmanlaw02_Great_0.eq_1]
    simp (maxSteps := 3000000) (maxDischargeDepth := 6) +contextual -implicitDefEqProofs only [amA M, amB, ↓slc_true, ↓slc_false, ↓slc_not, ↓fget_at, Nat.reduceBEq, Nat.reduceAdd, env, fargs, q_truchmanlaw02_Great, Nat.lt_irrefl, List.drop_length, lt_and0 hM, List.foldl_nil, hp_getl hp, qLex, ias_row (List.getElem?_eq_some_iff.1 ht).1, ht, qTrait]
  | n + 1, i, m, He, h => by
    have hi : i < Lf.length := by omega
    have hx : Lf[i]? = some Lf[i] := List.getElem?_eq_getElem hi
    have hd : (Lf.drop i) = Lf[i] :: Lf.drop (i + 1) := List.drop_eq_getElem_cons hi
    have hm : Lf[i] ∈ Lf := List.getElem_mem hi
    have ih := fun m He => gl0 (H := H) (H0 := H0) (l := l) (p := p) (T := T) (hp := hp) (i0 := i0) (t := t) (ht := ht) (Lf := Lf) (hM := hM) (hL := hL) k n (i + 1) m He (by omega)
    simp only [kv_cons, kv_nil] at ih
    have hib : i < t.values.l.length := by omega
    have hxb := (hL i hi).trans hx
    rw [go_head M l_truchmanlaw02_Great_0.eq_1]
    simp (maxSteps := 3000000) (maxDischargeDepth := 6) +contextual -implicitDefEqProofs only [amA M, amB, ↓slc_true, ↓slc_false, ↓slc_not, ↓fget_at, Nat.reduceBEq, Nat.reduceAdd, env, fargs, q_truchmanlaw02_Great, hx, hd, hi, ih, amG, AV.cell, Nat.reduceMul, Nat.reduceLeDiff, hp_getl hp, qLex, ias_row (List.getElem?_eq_some_iff.1 ht).1, ht, qTrait, qStr, hib, hxb, lt_100 hM hi, ias_row hib, wrap_s (n := 100) (show i < 100 by omega) (by simp [maxL]), List.foldl_cons, strN]
theorem gl1 {H H0 : List AObj} {l : Lex} {n0 : Nat} (hl : l.ok n0) {p : Nat} {T : TypeId} (hp : H[p]? = some (.cells l.row T)) (k : List Fra) : ∀ (n i : Nat) (m : Int) (He : List AObj), i + n = (l.traits.l).length →
    M.go a_truchmanlaw02_Great H0 (.c l_truchmanlaw02_Great_1 :: .lp ⟨(some [1, 3, 4, 5]), [], false⟩ l_truchmanlaw02_Great_1 He :: .blk 0 :: .c (.lv [1, 3, 4]) :: k) (kv [(1, .ptr p 0), (3, .ptr H.length 0), (4, cloG H.length), (5, .int .i64 i)]) (H ++ [nCell m]) =
      (M.go a_truchmanlaw02_Great H0 k (kv [(1, .ptr p 0), (3, .ptr H.length 0), (4, cloG H.length)]) (H ++ [nCell ((l.traits.l.drop i).foldl traitN m)]))
  | 0, i, m, He, h => by
    have e : i = (l.traits.l).length := by omega
    subst e
    rw [go_head M l_truchmanlaw02_Great_1.eq_1]
    simp (maxSteps := 3000000) (maxDischargeDepth := 6) +contextual -implicitDefEqProofs only [amA M, amB, ↓slc_true, ↓slc_false, ↓slc_not, ↓fget_at, Nat.reduceBEq, Nat.reduceAdd, env, fargs, q_truchmanlaw02_Great, Nat.lt_irrefl, List.drop_length, List.foldl_nil, hp_getl hp, qLex]
  | n + 1, i, m, He, h => by
    have hi : i < (l.traits.l).length := by omega
    have hx : (l.traits.l)[i]? = some (l.traits.l)[i] := List.getElem?_eq_getElem hi
    have hd : ((l.traits.l).drop i) = (l.traits.l)[i] :: (l.traits.l).drop (i + 1) := List.drop_eq_getElem_cons hi
    have hm : (l.traits.l)[i] ∈ (l.traits.l) := List.getElem_mem hi
    have ih := fun m He => gl1 (H := H) (H0 := H0) (l := l) (n0 := n0) (hl := hl) (p := p) (T := T) (hp := hp) k n (i + 1) m He (by omega)
    simp only [kv_cons, kv_nil] at ih
    have h0 := fun m k He => gl0 M (H0 := H0) hp (i0 := i) hx (Lf := l.traits.l[i].values.l.take 100) (by simp) (take_get _ 100) k (l.traits.l[i].values.l.take 100).length 0 m He (by omega)
    simp only [kv_cons, kv_nil, Int.ofNat_zero, List.drop_zero] at h0
    rw [go_head M l_truchmanlaw02_Great_1.eq_1]
    simp (maxSteps := 3000000) (maxDischargeDepth := 6) +contextual -implicitDefEqProofs only [amA M, amB, ↓slc_true, ↓slc_false, ↓slc_not, ↓fget_at, Nat.reduceBEq, Nat.reduceAdd, env, fargs, q_truchmanlaw02_Great, hx, hd, hi, ih, amG, AV.cell, Nat.reduceMul, Nat.reduceLeDiff, hp_getl hp, qLex, ias_row hi, qTrait, h0, wrap_s hi hl.traits.len, List.foldl_cons, traitN]

def slotN (m : Int) (s : Slot) : Int := featsN (w64 (m + w64 (w64 (1 + (s.pre.length : Int)) + (s.add.length : Int)))) s.feats.l
def badC2 (c : Class) : Bool := decide ((12 : Int) < (c.slots.l.length : Int)) && decide ((c.slots.l.length : Int) ≤ 24) || decide ((60 : Int) < (c.slots.l.length : Int))
def classN (m : Int) (c : Class) : Int := c.slots.l.foldl slotN (w64 (m + w64 (1 + (c.name.length : Int))))
theorem gl2 {H H0 : List AObj} (hg : GreatE E) {l : Lex} {n0 : Nat} (hl : l.ok n0) {p : Nat} {T : TypeId} (hp : H[p]? = some (.cells l.row T)) {i0 : Nat} {c : Class} (hci : l.classes.l[i0]? = some c) (k : List Fra) : ∀ (n i : Nat) (m : Int), i + n = (c.slots.l).length →
    M.go a_truchmanlaw02_Great H0 (.c l_truchmanlaw02_Great_2 :: .lp ⟨(some [1, 3, 4, 7, 8]), [], true⟩ l_truchmanlaw02_Great_2 (H ++ [nCell m]) :: .blk 6 :: .c (.lv [1, 3, 4, 7]) :: k) (kv [(1, .ptr p 0), (3, .ptr H.length 0), (4, cloG H.length), (7, .int .i64 i0), (8, .int .i64 i)]) (H ++ [nCell m]) =
      (M.go a_truchmanlaw02_Great H0 k (kv [(1, .ptr p 0), (3, .ptr H.length 0), (4, cloG H.length), (7, .int .i64 i0)]) (H ++ [nCell ((c.slots.l.drop i).foldl slotN m)]))
  | 0, i, m, h => by
    have e : i = (c.slots.l).length := by omega
    subst e
    rw [go_head M l_truchmanlaw02_Great_2.eq_1]
    simp (maxSteps := 3000000) (maxDischargeDepth := 6) +contextual -implicitDefEqProofs only [amA M, amB, ↓slc_true, ↓slc_false, ↓slc_not, ↓fget_at, Nat.reduceBEq, Nat.reduceAdd, env, fargs, q_truchmanlaw02_Great, Nat.lt_irrefl, List.drop_length, List.foldl_nil, hp_getl hp, qLex, ias_row (List.getElem?_eq_some_iff.1 hci).1, hci, qClass]
  | n + 1, i, m, h => by
    have hi : i < (c.slots.l).length := by omega
    have hx : (c.slots.l)[i]? = some (c.slots.l)[i] := List.getElem?_eq_getElem hi
    have hd : ((c.slots.l).drop i) = (c.slots.l)[i] :: (c.slots.l).drop (i + 1) := List.drop_eq_getElem_cons hi
    have hm : (c.slots.l)[i] ∈ (c.slots.l) := List.getElem_mem hi
    have ih := fun m => gl2 (H := H) (H0 := H0) (hg := hg) (l := l) (n0 := n0) (hl := hl) (p := p) (T := T) (hp := hp) (i0 := i0) (c := c) (hci := hci) k n (i + 1) m (by omega)
    simp only [kv_cons, kv_nil] at ih
    have hco := hl.classes.all c (List.mem_of_getElem? hci)
    have hpl := (List.getElem?_eq_some_iff.1 hp).1
    have w1 : Wk (H.length + 1) (.ptr p 0) (.ptr p 0) := wk_ptr (by omega)
    have w2 : Wk (H.length + 1) (.ptr H.length 0) (.ptr H.length 0) := wk_ptr (by omega)
    have w3 : Wk (H.length + 1) (cloG H.length) (cloG H.length) := wk_fn trivial ⟨wk_ptr (by omega), trivial⟩
    rw [go_head M l_truchmanlaw02_Great_2.eq_1]
    simp (maxSteps := 3000000) (maxDischargeDepth := 6) +contextual -implicitDefEqProofs only [amA M, amB, ↓slc_true, ↓slc_false, ↓slc_not, ↓fget_at, Nat.reduceBEq, Nat.reduceAdd, env, fargs, q_truchmanlaw02_Great, hx, hd, hi, ih, amG, AV.cell, Nat.reduceMul, Nat.reduceLeDiff, hp_getl hp, w1, w2, w3, cut_cell0, take_1, qLex, ias_row (List.getElem?_eq_some_iff.1 hci).1, hci, qClass, ias_row hi, qSlot, run_Great1 M hg.truchmanlaw02_Great_1, wrap_s hi hco.slots.len, List.foldl_cons, slotN]
theorem gl3 {H H0 : List AObj} (hg : GreatE E) {l : Lex} {n0 : Nat} (hl : l.ok n0) {p : Nat} {T : TypeId} (hp : H[p]? = some (.cells l.row T)) (hc : CutOk H0 H) (k : List Fra) : ∀ (n i : Nat) (m : Int), i + n = (l.classes.l).length →
    M.go a_truchmanlaw02_Great H0 (.c l_truchmanlaw02_Great_3 :: .lp ⟨(some [1, 3, 4, 7]), [], true⟩ l_truchmanlaw02_Great_3 (H ++ [nCell m]) :: .blk 4 :: .c (.lv [1, 3, 4]) :: k) (kv [(1, .ptr p 0), (3, .ptr H.length 0), (4, cloG H.length), (7, .int .i64 i)]) (H ++ [nCell m]) =
      sel ((l.classes.l.drop i).any badC2) (some (.ret (.bool true), H.take H0.length)) (M.go a_truchmanlaw02_Great H0 k (kv [(1, .ptr p 0), (3, .ptr H.length 0), (4, cloG H.length)]) (H ++ [nCell ((l.classes.l.drop i).foldl classN m)]))
  | 0, i, m, h => by
    have e : i = (l.classes.l).length := by omega
    subst e
    rw [go_head M l_truchmanlaw02_Great_3.eq_1]
    simp (maxSteps := 3000000) (maxDischargeDepth := 6) +contextual -implicitDefEqProofs only [amA M, amB, ↓slc_true, ↓slc_false, ↓slc_not, ↓fget_at, Nat.reduceBEq, Nat.reduceAdd, env, fargs, q_truchmanlaw02_Great, Nat.lt_irrefl, List.drop_length, List.foldl_nil, List.any_nil, hp_getl hp, qLex]
  | n + 1, i, m, h => by
    have hi : i < (l.classes.l).length := by omega
    have hx : (l.classes.l)[i]? = some (l.classes.l)[i] := List.getElem?_eq_getElem hi
    have hd : ((l.classes.l).drop i) = (l.classes.l)[i] :: (l.classes.l).drop (i + 1) := List.drop_eq_getElem_cons hi
    have hm : (l.classes.l)[i] ∈ (l.classes.l) := List.getElem_mem hi
    have ih := fun m => gl3 (H := H) (H0 := H0) (hg := hg) (l := l) (n0 := n0) (hl := hl) (p := p) (T := T) (hp := hp) hc k n (i + 1) m (by omega)
    simp only [kv_cons, kv_nil] at ih
    have hco := hl.classes.all _ hm
    have hpl := (List.getElem?_eq_some_iff.1 hp).1
    have w1 : Wk (H.length + 1) (.ptr p 0) (.ptr p 0) := wk_ptr (by omega)
    have w2 : Wk (H.length + 1) (.ptr H.length 0) (.ptr H.length 0) := wk_ptr (by omega)
    have w3 : Wk (H.length + 1) (cloG H.length) (cloG H.length) := wk_fn trivial ⟨wk_ptr (by omega), trivial⟩
    have h0 := fun m k => gl2 M (H0 := H0) hg hl hp (i0 := i) hx k l.classes.l[i].slots.l.length 0 m (by omega)
    simp only [kv_cons, kv_nil, Int.ofNat_zero, List.drop_zero] at h0
    rw [go_head M l_truchmanlaw02_Great_3.eq_1]
    simp (maxSteps := 3000000) (maxDischargeDepth := 6) +contextual -implicitDefEqProofs only [amA M, amB, ↓slc_true, ↓slc_false, ↓slc_not, ↓fget_at, Nat.reduceBEq, Nat.reduceAdd, env, fargs, q_truchmanlaw02_Great, hx, hd, hi, ih, amG, AV.cell, Nat.reduceMul, Nat.reduceLeDiff, hp_getl hp, w1, w2, w3, cut_cell0, take_1, qLex, ias_row hi, qClass, h0, wrap_s hi hl.classes.len, List.foldl_cons, List.any_cons, classN, badC2, hc]
    generalize (decide ((12 : Int) < (l.classes.l[i].slots.l.length : Int)) && decide ((l.classes.l[i].slots.l.length : Int) ≤ 24) || decide ((60 : Int) < (l.classes.l[i].slots.l.length : Int))) = b
    cases b <;> simp only [slc, Bool.true_or, Bool.false_or]

end Go.Am
end

section
set_option linter.unusedSimpArgs false
set_option linter.unusedVariables false
set_option maxRecDepth 100000
set_option maxHeartbeats 4000000
namespace Go.Am
open Go.RowKit
attribute [local congr] dsel_congr sel_c1 slc_cong gsel_congr go_congr aft_congr aftD_congr condR_congr backR_congr inR_congr at2_congr
variable {E : REnv} (M : Mach cdec E)

def irN (m : Int) (f : Irreg) : Int := w64 (m + (f.word.length : Int))
def entryN (m : Int) (x : Entry) : Int := (x.forms.l.take 100).foldl irN (featsN (w64 (m + w64 (w64 (w64 (1 + (x.lem.length : Int)) + (x.cls.length : Int)) + (x.forms.l.length : Int)))) x.feats.l)
theorem gl4 {H H0 : List AObj} {x : Entry} {T2 : TypeId} {p i0 : Nat} {Lf : List Irreg} (hM : Lf.length = min 100 x.forms.l.length) (hL : ∀ k, k < Lf.length → x.forms.l[k]? = Lf[k]?) (k : List Fra) : ∀ (n i : Nat) (m : Int) (He : List AObj), i + n = Lf.length →
    M.go a_truchmanlaw02_Great H0 (.c l_truchmanlaw02_Great_4 :: .lp ⟨(some [1, 3, 4, 10, 11, 12]), [], false⟩ l_truchmanlaw02_Great_4 He :: .blk 10 :: .c (.lv [1, 3, 4, 10]) :: k) (kv [(1, .ptr p 0), (3, .ptr H.length 0), (4, cloG H.length), (10, .int .i64 i0), (11, .ptr (H.length + 1) 0), (12, .int .i64 i)]) (H ++ [nCell m, .cells x.row T2]) =
      (M.go a_truchmanlaw02_Great H0 k (kv [(1, .ptr p 0), (3, .ptr H.length 0), (4, cloG H.length), (10, .int .i64 i0)]) (H ++ [nCell ((Lf.drop i).foldl irN m), .cells x.row T2]))
  | 0, i, m, He, h => by
    have e : i = Lf.length := by omega
    subst e
    rw [go_head M l_truchmanlaw02_Great_4.eq_1]
    simp (maxSteps := 3000000) (maxDischargeDepth := 6) +contextual -implicitDefEqProofs only [amA M, amB, ↓slc_true, ↓slc_false, ↓slc_not, ↓fget_at, Nat.reduceBEq, Nat.reduceAdd, env, fargs, q_truchmanlaw02_Great, Nat.lt_irrefl, List.drop_length, lt_and0 hM, List.foldl_nil, qEntry]
  | n + 1, i, m, He, h => by
    have hi : i < Lf.length := by omega
    have hx : Lf[i]? = some Lf[i] := List.getElem?_eq_getElem hi
    have hd : (Lf.drop i) = Lf[i] :: Lf.drop (i + 1) := List.drop_eq_getElem_cons hi
    have hm : Lf[i] ∈ Lf := List.getElem_mem hi
    have ih := fun m He => gl4 (H := H) (H0 := H0) (x := x) (T2 := T2) (p := p) (i0 := i0) (Lf := Lf) (hM := hM) (hL := hL) k n (i + 1) m He (by omega)
    simp only [kv_cons, kv_nil] at ih
    have hib : i < x.forms.l.length := by omega
    have hxb := (hL i hi).trans hx
    rw [go_head M l_truchmanlaw02_Great_4.eq_1]
    simp (maxSteps := 3000000) (maxDischargeDepth := 6) +contextual -implicitDefEqProofs only [amA M, amB, ↓slc_true, ↓slc_false, ↓slc_not, ↓fget_at, Nat.reduceBEq, Nat.reduceAdd, env, fargs, q_truchmanlaw02_Great, hx, hd, hi, ih, amG, AV.cell, Nat.reduceMul, Nat.reduceLeDiff, qEntry, qIrreg, hib, hxb, lt_100 hM hi, ias_row hib, wrap_s (n := 100) (show i < 100 by omega) (by simp [maxL]), List.foldl_cons, irN]
theorem gl5 {H H0 : List AObj} (hg : GreatE E) {l : Lex} {n0 : Nat} (hl : l.ok n0) {p : Nat} {T : TypeId} (hp : H[p]? = some (.cells l.row T)) (k : List Fra) : ∀ (n i : Nat) (m : Int), i + n = (l.entries.l).length →
    M.go a_truchmanlaw02_Great H0 (.c l_truchmanlaw02_Great_5 :: .lp ⟨(some [1, 3, 4, 10]), [], true⟩ l_truchmanlaw02_Great_5 (H ++ [nCell m]) :: .blk 8 :: .c (.lv [1, 3, 4]) :: k) (kv [(1, .ptr p 0), (3, .ptr H.length 0), (4, cloG H.length), (10, .int .i64 i)]) (H ++ [nCell m]) =
      (M.go a_truchmanlaw02_Great H0 k (kv [(1, .ptr p 0), (3, .ptr H.length 0), (4, cloG H.length)]) (H ++ [nCell ((l.entries.l.drop i).foldl entryN m)]))
  | 0, i, m, h => by
    have e : i = (l.entries.l).length := by omega
    subst e
    rw [go_head M l_truchmanlaw02_Great_5.eq_1]
    simp (maxSteps := 3000000) (maxDischargeDepth := 6) +contextual -implicitDefEqProofs only [amA M, amB, ↓slc_true, ↓slc_false, ↓slc_not, ↓fget_at, Nat.reduceBEq, Nat.reduceAdd, env, fargs, q_truchmanlaw02_Great, Nat.lt_irrefl, List.drop_length, List.foldl_nil, hp_getl hp, qLex]
  | n + 1, i, m, h => by
    have hi : i < (l.entries.l).length := by omega
    have hx : (l.entries.l)[i]? = some (l.entries.l)[i] := List.getElem?_eq_getElem hi
    have hd : ((l.entries.l).drop i) = (l.entries.l)[i] :: (l.entries.l).drop (i + 1) := List.drop_eq_getElem_cons hi
    have hm : (l.entries.l)[i] ∈ (l.entries.l) := List.getElem_mem hi
    have ih := fun m => gl5 (H := H) (H0 := H0) (hg := hg) (l := l) (n0 := n0) (hl := hl) (p := p) (T := T) (hp := hp) k n (i + 1) m (by omega)
    simp only [kv_cons, kv_nil] at ih
    have hpl := (List.getElem?_eq_some_iff.1 hp).1
    have w1 : Wk (H.length + 1) (.ptr p 0) (.ptr p 0) := wk_ptr (by omega)
    have w2 : Wk (H.length + 1) (.ptr H.length 0) (.ptr H.length 0) := wk_ptr (by omega)
    have w3 : Wk (H.length + 1) (cloG H.length) (cloG H.length) := wk_fn trivial ⟨wk_ptr (by omega), trivial⟩
    have h0 := fun m k He => gl4 M (H := H) (H0 := H0) (x := l.entries.l[i]) (T2 := t_api_Entry) (p := p) (i0 := i) (Lf := l.entries.l[i].forms.l.take 100) (by simp) (take_get _ 100) k (l.entries.l[i].forms.l.take 100).length 0 m He (by omega)
    simp only [kv_cons, kv_nil, Int.ofNat_zero, List.drop_zero] at h0
    rw [go_head M l_truchmanlaw02_Great_5.eq_1]
    simp (maxSteps := 3000000) (maxDischargeDepth := 6) +contextual -implicitDefEqProofs only [amA M, amB, ↓slc_true, ↓slc_false, ↓slc_not, ↓fget_at, Nat.reduceBEq, Nat.reduceAdd, env, fargs, q_truchmanlaw02_Great, hx, hd, hi, ih, amG, AV.cell, Nat.reduceMul, Nat.reduceLeDiff, hp_getl hp, w1, w2, w3, cut_cell0, take_1, qLex, ias_row hi, qEntry, h0, run_Great1 M hg.truchmanlaw02_Great_1, wrap_s hi hl.entries.len, List.foldl_cons, entryN]
def spellN (m : Int) (x : Spell) : Int := w64 (m + w64 (w64 (w64 ((x.frm.length : Int) + (x.to.length : Int)) + (x.left.length : Int)) + (x.right.length : Int)))
def linkN (m : Int) (x : Link) : Int := featsN (w64 (m + w64 ((x.cls.length : Int) + (x.glue.length : Int)))) x.feats.l
theorem gl6 {H H0 : List AObj} {l : Lex} {n0 : Nat} (hl : l.ok n0) {p : Nat} {T : TypeId} (hp : H[p]? = some (.cells l.row T)) (k : List Fra) : ∀ (n i : Nat) (m : Int) (He : List AObj), i + n = (l.spells.l).length →
    M.go a_truchmanlaw02_Great H0 (.c l_truchmanlaw02_Great_6 :: .lp ⟨(some [1, 3, 4, 13]), [], false⟩ l_truchmanlaw02_Great_6 He :: .blk 12 :: .c (.lv [1, 3, 4]) :: k) (kv [(1, .ptr p 0), (3, .ptr H.length 0), (4, cloG H.length), (13, .int .i64 i)]) (H ++ [nCell m]) =
      (M.go a_truchmanlaw02_Great H0 k (kv [(1, .ptr p 0), (3, .ptr H.length 0), (4, cloG H.length)]) (H ++ [nCell ((l.spells.l.drop i).foldl spellN m)]))
  | 0, i, m, He, h => by
    have e : i = (l.spells.l).length := by omega
    subst e
    rw [go_head M l_truchmanlaw02_Great_6.eq_1]
    simp (maxSteps := 3000000) (maxDischargeDepth := 6) +contextual -implicitDefEqProofs only [amA M, amB, ↓slc_true, ↓slc_false, ↓slc_not, ↓fget_at, Nat.reduceBEq, Nat.reduceAdd, env, fargs, q_truchmanlaw02_Great, Nat.lt_irrefl, List.drop_length, List.foldl_nil, hp_getl hp, qLex]
  | n + 1, i, m, He, h => by
    have hi : i < (l.spells.l).length := by omega
    have hx : (l.spells.l)[i]? = some (l.spells.l)[i] := List.getElem?_eq_getElem hi
    have hd : ((l.spells.l).drop i) = (l.spells.l)[i] :: (l.spells.l).drop (i + 1) := List.drop_eq_getElem_cons hi
    have hm : (l.spells.l)[i] ∈ (l.spells.l) := List.getElem_mem hi
    have ih := fun m He => gl6 (H := H) (H0 := H0) (l := l) (n0 := n0) (hl := hl) (p := p) (T := T) (hp := hp) k n (i + 1) m He (by omega)
    simp only [kv_cons, kv_nil] at ih
    rw [go_head M l_truchmanlaw02_Great_6.eq_1]
    simp (maxSteps := 3000000) (maxDischargeDepth := 6) +contextual -implicitDefEqProofs only [amA M, amB, ↓slc_true, ↓slc_false, ↓slc_not, ↓fget_at, Nat.reduceBEq, Nat.reduceAdd, env, fargs, q_truchmanlaw02_Great, hx, hd, hi, ih, amG, AV.cell, Nat.reduceMul, Nat.reduceLeDiff, hp_getl hp, qLex, ias_row hi, qSpell, wrap_s hi hl.spells.len, List.foldl_cons, spellN]
theorem gl7 {H H0 : List AObj} (hg : GreatE E) {l : Lex} {n0 : Nat} (hl : l.ok n0) {p : Nat} {T : TypeId} (hp : H[p]? = some (.cells l.row T)) (k : List Fra) : ∀ (n i : Nat) (m : Int) (He : List AObj), i + n = (l.links.l).length →
    M.go a_truchmanlaw02_Great H0 (.c l_truchmanlaw02_Great_7 :: .lp ⟨(some [1, 3, 4, 14]), [], false⟩ l_truchmanlaw02_Great_7 He :: .blk 14 :: .c (.lv [3]) :: k) (kv [(1, .ptr p 0), (3, .ptr H.length 0), (4, cloG H.length), (14, .int .i64 i)]) (H ++ [nCell m]) =
      (M.go a_truchmanlaw02_Great H0 k (kv [(3, .ptr H.length 0)]) (H ++ [nCell ((l.links.l.drop i).foldl linkN m)]))
  | 0, i, m, He, h => by
    have e : i = (l.links.l).length := by omega
    subst e
    rw [go_head M l_truchmanlaw02_Great_7.eq_1]
    simp (maxSteps := 3000000) (maxDischargeDepth := 6) +contextual -implicitDefEqProofs only [amA M, amB, ↓slc_true, ↓slc_false, ↓slc_not, ↓fget_at, Nat.reduceBEq, Nat.reduceAdd, env, fargs, q_truchmanlaw02_Great, Nat.lt_irrefl, List.drop_length, List.foldl_nil, hp_getl hp, qLex]
  | n + 1, i, m, He, h => by
    have hi : i < (l.links.l).length := by omega
    have hx : (l.links.l)[i]? = some (l.links.l)[i] := List.getElem?_eq_getElem hi
    have hd : ((l.links.l).drop i) = (l.links.l)[i] :: (l.links.l).drop (i + 1) := List.drop_eq_getElem_cons hi
    have hm : (l.links.l)[i] ∈ (l.links.l) := List.getElem_mem hi
    have ih := fun m He => gl7 (H := H) (H0 := H0) (hg := hg) (l := l) (n0 := n0) (hl := hl) (p := p) (T := T) (hp := hp) k n (i + 1) m He (by omega)
    simp only [kv_cons, kv_nil] at ih
    rw [go_head M l_truchmanlaw02_Great_7.eq_1]
    simp (maxSteps := 3000000) (maxDischargeDepth := 6) +contextual -implicitDefEqProofs only [amA M, amB, ↓slc_true, ↓slc_false, ↓slc_not, ↓fget_at, Nat.reduceBEq, Nat.reduceAdd, env, fargs, q_truchmanlaw02_Great, hx, hd, hi, ih, amG, AV.cell, Nat.reduceMul, Nat.reduceLeDiff, hp_getl hp, qLex, ias_row hi, qLink, run_Great1 M hg.truchmanlaw02_Great_1, wrap_s hi hl.links.len, List.foldl_cons, linkN]

/-- More than statements look at. -/
def greatF (l : Lex) : Bool :=
  decide ((60 : Int) < (l.entries.l.length : Int)) && decide ((l.entries.l.length : Int) ≤ 128) || decide ((200 : Int) < (l.entries.l.length : Int)) || decide ((40 : Int) < (l.traits.l.length : Int)) || decide ((40 : Int) < (l.classes.l.length : Int)) || decide ((40 : Int) < (l.spells.l.length : Int)) || decide ((40 : Int) < (l.links.l.length : Int)) ||
    (l.classes.l.any badC2 || decide (6000 < l.links.l.foldl linkN (l.spells.l.foldl spellN (l.entries.l.foldl entryN (l.classes.l.foldl classN (l.traits.l.foldl traitN (l.vowels.length : Int)))))))
theorem run_Great (hg : GreatE E) {l : Lex} {n : Nat} (hl : l.ok n) (H : List AObj) : M.run f_truchmanlaw02_Great [.agg l.row] H = some (.ret (.bool (greatF l)), H) := by
  rw [run_c M hg.truchmanlaw02_Great rfl (c := c_truchmanlaw02_Great) rfl, c_truchmanlaw02_Great]
  have hp : (H ++ [AObj.cells l.row t_api_Lexicon])[H.length]? = some (.cells l.row t_api_Lexicon) := by rw [hp_get0]; rfl
  have h1 := fun m k He => gl1 M (H0 := H) hl hp k l.traits.l.length 0 m He (by omega)
  have h3 := fun m k => gl3 M (H0 := H) hg hl hp (cut_app H _) k l.classes.l.length 0 m (by omega)
  have h5 := fun m k => gl5 M (H0 := H) hg hl hp k l.entries.l.length 0 m (by omega)
  have h6 := fun m k He => gl6 M (H0 := H) hl hp k l.spells.l.length 0 m He (by omega)
  have h7 := fun m k He => gl7 M (H0 := H) hg hl hp k l.links.l.length 0 m He (by omega)
  simp only [kv_cons, kv_nil, Int.ofNat_zero, List.drop_zero, lo_app3, lo_app1, lo_app0, lo_len, lo_len1, lo_len0, Nat.zero_add, hp_take] at h1 h3 h5 h6 h7
  simp (maxSteps := 3000000) (maxDischargeDepth := 6) +contextual -implicitDefEqProofs only [amA M, amB, ↓slc_true, ↓slc_false, ↓slc_not, ↓fget_at, Nat.reduceBEq, Nat.reduceAdd, env, fargs, q_truchmanlaw02_Great, amG, AV.cell, Nat.reduceMul, Nat.reduceLeDiff, h1, h3, h5, h6, h7, qLex, greatF, Bool.or_assoc]

end Go.Am
end

section
set_option linter.unusedSimpArgs false
set_option linter.unusedVariables false
set_option maxRecDepth 100000
set_option maxHeartbeats 4000000
namespace Go.Am
open Go.RowKit
attribute [local congr] dsel_congr sel_c1 slc_cong gsel_congr go_congr aft_congr aftD_congr condR_congr backR_congr inR_congr at2_congr
variable {E : REnv} (M : Mach cdec E)

/-! Functions without bodies, as the environment tells them -/
structure ExtE (M : Mach cdec E) : Prop where
  index : ∀ (s : Str) (c : UInt8) (H : List AObj), M.run f_internal_bytealg_IndexByteString [.str s, .int .u8 c.toNat] H = some (.ret (.int .i64 (Lib.indexByte s c)), H)
  same : ∀ (i o : Nat) (H : List AObj), M.run f_internal_abi_NoEscape [.ptr i o] H = some (.ret (.ptr i o), H)

structure BldE (E : REnv) : Prop where
  strings_Builder_WriteString : E.fn f_strings_Builder_WriteString = some a_strings_Builder_WriteString
  strings_Builder_WriteByte : E.fn f_strings_Builder_WriteByte = some a_strings_Builder_WriteByte
  strings_Builder_String : E.fn f_strings_Builder_String = some a_strings_Builder_String
  strings_Builder_Len : E.fn f_strings_Builder_Len = some a_strings_Builder_Len
  strings_Builder_copyCheck : E.fn f_strings_Builder_copyCheck = some a_strings_Builder_copyCheck

/-! strings.Builder: a token and the builder behind it -/
abbrev bRows (s : Str) : List (List AV) := s.map fun b => [.int .u8 (b.toNat : Int)]
/-- What was written; whether anything was written. -/
abbrev bTok (w : Str) : AObj := .tok w.length t_uint8
abbrev bCells (a : AV) (n : Nat) (w : Str) (T : TypeId) : AObj := .cells [a, .slice (.own n) 1 (bRows w)] T
theorem bRows_cell (s : Str) : rowsOk 1 (bRows s) = true := by simp [rowsOk, bRows, AV.cell]
theorem bRows_abytes : ∀ s : Str, abytesR (bRows s) = some s
  | [] => rfl
  | c :: s => by
    have := bRows_abytes s
    simp only [bRows] at this ⊢
    simp only [List.map_cons, abytesR, this, Option.map_some]
    congr 2
    simp
theorem bRows_in : ∀ s : Str, bytesIn (bRows s) = true
  | [] => rfl
  | c :: s => by
    have := bRows_in s
    simp only [bRows] at this ⊢
    simp only [List.map_cons, bytesIn, this, Bool.and_true, Bool.and_eq_true, decide_eq_true_eq]
    have := c.toNat_lt
    omega
theorem bRows_app (w s : Str) : bRows (w ++ s) = bRows w ++ (bRows s).map (·.map AV.strip) := by
  simp only [bRows, List.map_append, List.map_map]
  congr 1
theorem ap_bytes (H L : List AObj) {w s : Str} (h : w.length + s.length ≤ 140737488355328) (x : AV) (hx : ∀ H, rsrc H 1 true x = some (bRows s)) :
    rap false (H ++ (bTok w :: L)) t_uint8 1 1 true (.slice (.own H.length) 1 (bRows w)) x = some (.slice (.own H.length) 1 (bRows (w ++ s)), H ++ (bTok (w ++ s) :: L)) := by
  have h1 : (bRows w).length = w.length := by simp [bRows]
  have h2 : (bRows s).length = s.length := by simp [bRows]
  have hc : (w.length + s.length) * 1 ≤ 140737488355328 ∧ w.length + s.length ≤ 4611686018427387904 ∧ rowsOk 1 (bRows s) = true := ⟨by omega, by omega, bRows_cell s⟩
  rw [bRows_app]
  cases s with
  | nil => simp [rap, rapp, hx, h1, bRows, rowsOk]; simp at h; omega
  | cons c s =>
    simp only [rap, rapp, hx, h1, h2, or_true, true_and, hc, if_true, and_self]
    simp only [bRows, List.map_cons, hp_get0, List.getElem?_cons_zero, hp_set0, List.set_cons_zero, Nat.mul_one, List.length_cons, List.length_map, and_self, if_true, List.length_append, bTok]
theorem src_str (s : Str) (H : List AObj) : rsrc H 1 true (.str s) = some (bRows s) := by simp [rsrc]
theorem ap_str (H L : List AObj) {w s : Str} (h : w.length + s.length ≤ 140737488355328) :
    rap false (H ++ (bTok w :: L)) t_uint8 1 1 true (.slice (.own H.length) 1 (bRows w)) (.str s) = some (.slice (.own H.length) 1 (bRows (w ++ s)), H ++ (bTok (w ++ s) :: L)) := ap_bytes H L h _ (src_str s)
theorem ap_byte (H L : List AObj) {w : Str} {c : UInt8} (h : w.length + 1 ≤ 140737488355328) :
    rap false (H ++ (bTok w :: L)) t_uint8 1 1 false (.slice (.own H.length) 1 (bRows w)) (.slice .full 1 [[.int .u8 (c.toNat : Int)]]) = some (.slice (.own H.length) 1 (bRows (w ++ [c])), H ++ (bTok (w ++ [c]) :: L)) := by
  have h1 : (bRows w).length = w.length := by simp [bRows]
  have hc : (w.length + 1) * 1 ≤ 140737488355328 ∧ w.length + 1 ≤ 4611686018427387904 := ⟨by omega, by omega⟩
  simp only [rap, rapp, rsrc, h1, or_true, if_true, List.length_cons, List.length_nil, Nat.zero_add, true_and, hc, and_self]
  simp [rowsOk, AV.cell, hp_get0, hp_set0, bRows_app, bRows, AV.strip, h1, List.map_append]
theorem ust_w (H L : List AObj) (w : Str) (hw : w.length ≤ 9223372036854775807) : rust (H ++ (bTok w :: L)) t_uint8 (.sdp H.length (bRows w)) (.int .i64 (w.length : Int)) = some (.str w) := by
  cases w with
  | nil => simp [bRows, rust]
  | cons c w =>
    have h1 := bRows_abytes (c :: w)
    have h2 := bRows_in (c :: w)
    simp only [bRows, List.map_cons] at h1 h2 ⊢
    simp only [rust, hp_get0, List.getElem?_cons_zero, h1, h2]
    rw [if_pos]
    exact ⟨trivial, trivial, Nat.le_refl _, hw, trivial⟩
theorem usl_w (n : Nat) (w : Str) : rusl (.slice (.own n) 1 (bRows w)) = some (.sdp n (bRows w)) := rfl

/-- Two neighbours may have changed. -/
theorem cut_two {H L : List AObj} {n n' : Nat} {T T' T1 T2 : TypeId} {cs cs' : List AV} (h : WkL (H.length + (L.length + 1 + 1)) cs' cs') : CutOk (H ++ (.tok n T :: .cells cs T1 :: L)) (H ++ (.tok n' T' :: .cells cs' T2 :: L)) :=
  ⟨by simp, fun i x hi hx => by
    rcases Nat.lt_trichotomy i H.length with hl | hl | hl
    · left; rw [List.getElem?_append_left hl] at hx ⊢; exact hx
    · subst hl; rw [hp_get0] at hx; right
      obtain rfl : _ = x := by simpa using hx
      trivial
    · obtain ⟨j, rfl⟩ : ∃ j, i = H.length + (j + 1) := ⟨i - H.length - 1, by omega⟩
      rw [hp_getk] at hx ⊢
      cases j with
      | zero =>
        right
        obtain rfl : _ = x := by simpa using hx
        intro c hc
        obtain ⟨k, hk⟩ := List.getElem?_of_mem hc
        obtain ⟨y, h1, h2⟩ := h.get k c hk
        rw [hk] at h1; cases h1
        simpa [Nat.add_assoc] using h2
      | succ j => left; simpa using hx⟩
theorem take_two (H L : List AObj) (x y : AObj) : (H ++ (x :: y :: L)).take (H.length + (L.length + 1 + 1)) = H ++ (x :: y :: L) := List.take_of_length_le (by simp)
theorem bytes_wk (n : Nat) (w : Str) : RowsWk n (bRows w) := by
  rw [rowsWk_map]; exact fun _ _ => ⟨wk_int _ _ _, trivial⟩
theorem b_wk (H L : List AObj) (w : Str) : WkL (H.length + (L.length + 1 + 1)) [.ptr (H.length + 1) 0, .slice (.own H.length) 1 (bRows w)] [.ptr (H.length + 1) 0, .slice (.own H.length) 1 (bRows w)] :=
  ⟨wk_ptr (by omega), wk_slice (show H.length < _ by omega) (bytes_wk _ _), trivial⟩

theorem qU : (∀ (a : Env) (H : List AObj) (x : RX), rop a H (.usl x) = ronly H (rusl (rx a x))) ∧ (∀ (a : Env) (H : List AObj) (e : TypeId) (x n : RX), rop a H (.ust e x n) = ronly H (rust H e (rx a x) (rx a n))) ∧ (∀ (a : Env) (H : List AObj) (x : RX), rop a H (.cvu x) = ronly H (rcvu H (rx a x))) ∧ (∀ (a : Env) (H : List AObj) (u : TypeId) (sz : Nat) (x : RX), rop a H (.cvf u sz x) = ronly H (rcvf H u sz (rx a x))) ∧
  (∀ (a : Env) (H : List AObj) (cs : List AV) (e : TypeId) (j : Nat) (T : TypeId), rop a H (.nwb cs e j T) = some (.ptr (H.length + 1) 0, H ++ [.tok 0 T, .cells (cs.set j (.slice (.own H.length) 1 [])) e])) :=
  ⟨fun _ _ _ => rfl, fun _ _ _ _ _ => rfl, fun _ _ _ => rfl, fun _ _ _ _ _ => rfl, fun _ _ _ _ _ _ => rfl⟩
theorem req_nilp : req .ptr .nilp .nilp = some true := rfl
theorem req_ptrnil (i o : Nat) : req .ptr (.ptr i o) .nilp = some false := rfl
theorem req_ptrs (i o : Nat) : req .ptr (.ptr i o) (.ptr i o) = some true := by simp [req]
theorem cvu_b (H L : List AObj) (x : AObj) (a b : AV) (T : TypeId) : rcvu (H ++ (x :: .cells [a, b] T :: L)) (.ptr (H.length + 1) 0) = some (.ptr (H.length + 1) 0) := by
  simp [rcvu, hp_getk]
theorem cvf_b (H L : List AObj) (x : AObj) (a b : AV) (T : TypeId) : rcvf (H ++ (x :: .cells [a, b] T :: L)) T 2 (.ptr (H.length + 1) 0) = some (.ptr (H.length + 1) 0) := by
  simp [rcvf, hp_getk]

theorem run_copyCheck0 (hB : BldE E) (hX : ExtE M) (H L : List AObj) (w : Str) :
    M.run f_strings_Builder_copyCheck [.ptr (H.length + 1) 0] (H ++ (bTok w :: bCells .nilp H.length w t_strings_Builder :: L)) = some (.ret (.tuple []), H ++ (bTok w :: bCells (.ptr (H.length + 1) 0) H.length w t_strings_Builder :: L)) := by
  rw [run_c M hB.strings_Builder_copyCheck rfl (c := c_strings_Builder_copyCheck) rfl, c_strings_Builder_copyCheck]
  have h1 := hX.same (H.length + 1) 0
  have hw := b_wk H L w
  simp (maxSteps := 3000000) (maxDischargeDepth := 6) +contextual -implicitDefEqProofs only [amA M, amB, ↓slc_true, ↓slc_false, ↓slc_not, ↓fget_at, Nat.reduceBEq, Nat.reduceAdd, env, fargs, q_strings_Builder_copyCheck, amG, AV.cell, Nat.reduceMul, Nat.reduceLeDiff, h1, qU, req_nilp, rnc, cvu_b, cvf_b, cut_two hw, take_two, wk_tuple]
theorem run_copyCheck1 (hB : BldE E) (H L : List AObj) (w : Str) (T : TypeId) :
    M.run f_strings_Builder_copyCheck [.ptr (H.length + 1) 0] (H ++ (bTok w :: bCells (.ptr (H.length + 1) 0) H.length w T :: L)) = some (.ret (.tuple []), H ++ (bTok w :: bCells (.ptr (H.length + 1) 0) H.length w T :: L)) := by
  rw [run_c M hB.strings_Builder_copyCheck rfl (c := c_strings_Builder_copyCheck) rfl, c_strings_Builder_copyCheck]
  simp (maxSteps := 3000000) (maxDischargeDepth := 6) +contextual -implicitDefEqProofs only [amA M, amB, ↓slc_true, ↓slc_false, ↓slc_not, ↓fget_at, Nat.reduceBEq, Nat.reduceAdd, env, fargs, q_strings_Builder_copyCheck, req_ptrnil, req_ptrs, rnc, take_two, wk_tuple]
theorem run_WriteString0 (hB : BldE E) (hX : ExtE M) (H L : List AObj) {w s : Str} {T : TypeId} (h : w.length + s.length ≤ 140737488355328) :
    M.run f_strings_Builder_WriteString [.ptr (H.length + 1) 0, .str s] (H ++ (bTok w :: bCells .nilp H.length w t_strings_Builder :: L)) = some (.ret (.tuple [.int .i64 s.length, .nilif]), H ++ (bTok (w ++ s) :: bCells (.ptr (H.length + 1) 0) H.length (w ++ s) t_strings_Builder :: L)) := by
  rw [run_c M hB.strings_Builder_WriteString rfl (c := c_strings_Builder_WriteString) rfl, c_strings_Builder_WriteString]
  have hw := b_wk H L (w ++ s)
  simp (maxSteps := 3000000) (maxDischargeDepth := 6) +contextual -implicitDefEqProofs only [amA M, amB, ↓slc_true, ↓slc_false, ↓slc_not, ↓fget_at, Nat.reduceBEq, Nat.reduceAdd, env, fargs, q_strings_Builder_WriteString, amG, AV.cell, Nat.reduceMul, Nat.reduceLeDiff, (run_copyCheck0 M hB hX), rnc, ap_str _ _ h, cut_two hw, take_two, wk_tuple]
theorem run_WriteByte0 (hB : BldE E) (hX : ExtE M) (H L : List AObj) {w : Str} {c : UInt8} {T : TypeId} (h : w.length + 1 ≤ 140737488355328) :
    M.run f_strings_Builder_WriteByte [.ptr (H.length + 1) 0, .int .u8 c.toNat] (H ++ (bTok w :: bCells .nilp H.length w t_strings_Builder :: L)) = some (.ret .nilif, H ++ (bTok (w ++ [c]) :: bCells (.ptr (H.length + 1) 0) H.length (w ++ [c]) t_strings_Builder :: L)) := by
  rw [run_c M hB.strings_Builder_WriteByte rfl (c := c_strings_Builder_WriteByte) rfl, c_strings_Builder_WriteByte]
  have hw := b_wk H L (w ++ [c])
  simp (maxSteps := 3000000) (maxDischargeDepth := 6) +contextual -implicitDefEqProofs only [amA M, amB, ↓slc_true, ↓slc_false, ↓slc_not, ↓fget_at, Nat.reduceBEq, Nat.reduceAdd, env, fargs, q_strings_Builder_WriteByte, amG, AV.cell, Nat.reduceMul, Nat.reduceLeDiff, (run_copyCheck0 M hB hX), rnc, ap_byte _ _ h, cut_two hw, take_two, wk_tuple]

theorem run_WriteString1 (hB : BldE E) (hX : ExtE M) (H L : List AObj) {w s : Str} {T : TypeId} (h : w.length + s.length ≤ 140737488355328) :
    M.run f_strings_Builder_WriteString [.ptr (H.length + 1) 0, .str s] (H ++ (bTok w :: bCells (.ptr (H.length + 1) 0) H.length w T :: L)) = some (.ret (.tuple [.int .i64 s.length, .nilif]), H ++ (bTok (w ++ s) :: bCells (.ptr (H.length + 1) 0) H.length (w ++ s) T :: L)) := by
  rw [run_c M hB.strings_Builder_WriteString rfl (c := c_strings_Builder_WriteString) rfl, c_strings_Builder_WriteString]
  have hw := b_wk H L (w ++ s)
  simp (maxSteps := 3000000) (maxDischargeDepth := 6) +contextual -implicitDefEqProofs only [amA M, amB, ↓slc_true, ↓slc_false, ↓slc_not, ↓fget_at, Nat.reduceBEq, Nat.reduceAdd, env, fargs, q_strings_Builder_WriteString, amG, AV.cell, Nat.reduceMul, Nat.reduceLeDiff, (run_copyCheck1 M hB), rnc, ap_str _ _ h, cut_two hw, take_two, wk_tuple]
theorem run_WriteByte1 (hB : BldE E) (hX : ExtE M) (H L : List AObj) {w : Str} {c : UInt8} {T : TypeId} (h : w.length + 1 ≤ 140737488355328) :
    M.run f_strings_Builder_WriteByte [.ptr (H.length + 1) 0, .int .u8 c.toNat] (H ++ (bTok w :: bCells (.ptr (H.length + 1) 0) H.length w T :: L)) = some (.ret .nilif, H ++ (bTok (w ++ [c]) :: bCells (.ptr (H.length + 1) 0) H.length (w ++ [c]) T :: L)) := by
  rw [run_c M hB.strings_Builder_WriteByte rfl (c := c_strings_Builder_WriteByte) rfl, c_strings_Builder_WriteByte]
  have hw := b_wk H L (w ++ [c])
  simp (maxSteps := 3000000) (maxDischargeDepth := 6) +contextual -implicitDefEqProofs only [amA M, amB, ↓slc_true, ↓slc_false, ↓slc_not, ↓fget_at, Nat.reduceBEq, Nat.reduceAdd, env, fargs, q_strings_Builder_WriteByte, amG, AV.cell, Nat.reduceMul, Nat.reduceLeDiff, (run_copyCheck1 M hB), rnc, ap_byte _ _ h, cut_two hw, take_two, wk_tuple]

theorem run_bString (hB : BldE E) (H L : List AObj) {w : Str} {a : AV} {T : TypeId} (hw : w.length ≤ 9223372036854775807) :
    M.run f_strings_Builder_String [.ptr (H.length + 1) 0] (H ++ (bTok w :: bCells a H.length w T :: L)) = some (.ret (.str w), H ++ (bTok w :: bCells a H.length w T :: L)) := by
  rw [run_c M hB.strings_Builder_String rfl (c := c_strings_Builder_String) rfl, c_strings_Builder_String]
  simp (maxSteps := 3000000) (maxDischargeDepth := 6) +contextual -implicitDefEqProofs only [amA M, amB, ↓slc_true, ↓slc_false, ↓slc_not, ↓fget_at, Nat.reduceBEq, Nat.reduceAdd, env, fargs, q_strings_Builder_String, qU, rnc, usl_w, ust_w H _ w hw, take_two]
theorem run_bLen (hB : BldE E) (H L : List AObj) {w : Str} {a : AV} {T : TypeId} :
    M.run f_strings_Builder_Len [.ptr (H.length + 1) 0] (H ++ (bTok w :: bCells a H.length w T :: L)) = some (.ret (.int .i64 w.length), H ++ (bTok w :: bCells a H.length w T :: L)) := by
  rw [run_c M hB.strings_Builder_Len rfl (c := c_strings_Builder_Len) rfl, c_strings_Builder_Len]
  simp (maxSteps := 3000000) (maxDischargeDepth := 6) +contextual -implicitDefEqProofs only [amA M, amB, ↓slc_true, ↓slc_false, ↓slc_not, ↓fget_at, Nat.reduceBEq, Nat.reduceAdd, env, fargs, q_strings_Builder_Len, rnc, take_two]

end Go.Am
end

section
set_option linter.unusedSimpArgs false
set_option linter.unusedVariables false
set_option maxRecDepth 100000
set_option maxHeartbeats 4000000
namespace Go.Am
open Go.RowKit
attribute [local congr] dsel_congr sel_c1 slc_cong gsel_congr go_congr aft_congr aftD_congr condR_congr backR_congr inR_congr at2_congr
variable {E : REnv} (M : Mach cdec E)

structure SpE (E : REnv) : Prop where
  internal_stringslite_HasPrefix : E.fn f_internal_stringslite_HasPrefix = some a_internal_stringslite_HasPrefix
  internal_stringslite_IndexByte : E.fn f_internal_stringslite_IndexByte = some a_internal_stringslite_IndexByte
  morph_Spell : E.fn f_morph_Spell = some a_morph_Spell
  morph_language_left : E.fn f_morph_language_left = some a_morph_language_left
  morph_language_match : E.fn f_morph_language_match = some a_morph_language_match
  morph_language_right : E.fn f_morph_language_right = some a_morph_language_right
  morph_language_spell : E.fn f_morph_language_spell = some a_morph_language_spell
  strings_HasPrefix : E.fn f_strings_HasPrefix = some a_strings_HasPrefix
  strings_IndexByte : E.fn f_strings_IndexByte = some a_strings_IndexByte

/-! Strings -/
theorem sls_from {s : Str} {k : IntKind} {i : Nat} (h : i ≤ s.length) : rsls (.str s) (some (.int k (i : Int))) none = some (.str (s.drop i)) := by
  simp [rsls, abound, h]
  exact List.take_of_length_le (by simp)
theorem sls_to {s : Str} {k : IntKind} {i : Nat} (h : i ≤ s.length) : rsls (.str s) none (some (.int k (i : Int))) = some (.str (s.take i)) := by
  simp [rsls, abound, h]
theorem sls_both {s : Str} {k k' : IntKind} {i j : Nat} (h : i ≤ j) (hj : j ≤ s.length) : rsls (.str s) (some (.int k (i : Int))) (some (.int k' (j : Int))) = some (.str ((s.drop i).take (j - i))) := by
  simp [rsls, abound, h, hj]
def hasPre (s p : Str) : Bool := decide (p.length ≤ s.length) && (s.take p.length == p)
theorem run_HasPrefix (hS : SpE E) (s p : Str) (H : List AObj) : M.run f_strings_HasPrefix [.str s, .str p] H = some (.ret (.bool (hasPre s p)), H) := by
  have h1 : M.run f_internal_stringslite_HasPrefix [.str s, .str p] H = some (.ret (.bool (hasPre s p)), H) := by
    rw [run_c M hS.internal_stringslite_HasPrefix rfl (c := c_internal_stringslite_HasPrefix) rfl, c_internal_stringslite_HasPrefix]
    cases hd : decide (p.length ≤ s.length) with
    | true =>
      have hle : p.length ≤ s.length := of_decide_eq_true hd
      simp (maxSteps := 3000000) (maxDischargeDepth := 6) +contextual -implicitDefEqProofs only [amA M, amB, ↓slc_true, ↓slc_false, ↓slc_not, ↓fget_at, Nat.reduceBEq, Nat.reduceAdd, env, fargs, q_internal_stringslite_HasPrefix, hasPre, hd, sls_to hle]
    | false =>
      simp (maxSteps := 3000000) (maxDischargeDepth := 6) +contextual -implicitDefEqProofs only [amA M, amB, ↓slc_true, ↓slc_false, ↓slc_not, ↓fget_at, Nat.reduceBEq, Nat.reduceAdd, env, fargs, q_internal_stringslite_HasPrefix, hasPre, hd]
  rw [run_c M hS.strings_HasPrefix rfl (c := c_strings_HasPrefix) rfl, c_strings_HasPrefix]
  simp (maxSteps := 3000000) (maxDischargeDepth := 6) +contextual -implicitDefEqProofs only [amA M, amB, ↓slc_true, ↓slc_false, ↓slc_not, ↓fget_at, Nat.reduceBEq, Nat.reduceAdd, env, fargs, q_strings_HasPrefix, h1]
theorem index_any : ∀ (s : Str) (c : UInt8), decide ((0 : Int) ≤ Lib.indexByte s c) = s.any fun d => d == c
  | [], c => rfl
  | d :: s, c => by
    rw [Lib.indexByte, List.any_cons, ← index_any s c]
    cases h : d == c with
    | true => simp
    | false =>
      have hg := Lib.indexByte_ge s c
      simp only [Bool.false_or]
      by_cases h2 : Lib.indexByte s c = -1
      · simp [h2]
      · have : (Lib.indexByte s c == -1) = false := by simpa using h2
        simp only [this]
        rw [Bool.eq_iff_iff]; simp; omega
theorem run_IndexByte (hS : SpE E) (hX : ExtE M) (s : Str) (c : UInt8) (H : List AObj) : M.run f_strings_IndexByte [.str s, .int .u8 c.toNat] H = some (.ret (.int .i64 (Lib.indexByte s c)), H) := by
  have h1 : M.run f_internal_stringslite_IndexByte [.str s, .int .u8 c.toNat] H = some (.ret (.int .i64 (Lib.indexByte s c)), H) := by
    rw [run_c M hS.internal_stringslite_IndexByte rfl (c := c_internal_stringslite_IndexByte) rfl, c_internal_stringslite_IndexByte]
    simp (maxSteps := 3000000) (maxDischargeDepth := 6) +contextual -implicitDefEqProofs only [amA M, amB, ↓slc_true, ↓slc_false, ↓slc_not, ↓fget_at, Nat.reduceBEq, Nat.reduceAdd, env, fargs, q_internal_stringslite_IndexByte, hX.index]
  rw [run_c M hS.strings_IndexByte rfl (c := c_strings_IndexByte) rfl, c_strings_IndexByte]
  simp (maxSteps := 3000000) (maxDischargeDepth := 6) +contextual -implicitDefEqProofs only [amA M, amB, ↓slc_true, ↓slc_false, ↓slc_not, ↓fget_at, Nat.reduceBEq, Nat.reduceAdd, env, fargs, q_strings_IndexByte, h1]

/-! Patterns -/
def symAt (s : Str) (at_ : Int) : Option UInt8 := if at_ < 0 then none else s[at_.toNat]?
def isV (v : Str) (c : UInt8) : Bool := v.any fun d => d == c
def matchF (v : Str) (p : UInt8) (s : Str) (at_ : Int) : Bool :=
  match symAt s at_ with
  | none => ((p.toNat : Int) == 35) && ((at_ == -1) || (at_ == (s.length : Int)))
  | some c => sel ((p.toNat : Int) == 67) (isLo c && !isV v c) (sel ((p.toNat : Int) == 86) (isLo c && isV v c) (p.toNat == c.toNat))
theorem run_match (hN : NamesE E) (hS : SpE E) (hX : ExtE M) {l : Lex} (p : UInt8) (s : Str) (at_ : Int) (H : List AObj) :
    M.run f_morph_language_match [.agg l.row, .int .u8 p.toNat, .str s, .int .i64 at_] H = some (.ret (.bool (matchF l.vowels p s at_)), H) := by
  rw [run_c M hS.morph_language_match rfl (c := c_morph_language_match) rfl, c_morph_language_match]
  by_cases h : at_ < 0
  · have e : symAt s at_ = none := if_pos h
    have hd : decide (at_ < 0) = true := decide_eq_true h
    simp (maxSteps := 3000000) (maxDischargeDepth := 6) +contextual -implicitDefEqProofs only [amA M, amB, ↓slc_true, ↓slc_false, ↓slc_not, ↓fget_at, Nat.reduceBEq, Nat.reduceAdd, env, fargs, q_morph_language_match, hd, matchF, e, cut_app]
  · obtain ⟨j, rfl⟩ : ∃ j : Nat, at_ = (j : Int) := ⟨at_.toNat, by omega⟩
    have e : symAt s (j : Int) = s[j]? := by simp [symAt, h]
    by_cases hj : j < s.length
    · have hx : s[j]? = some s[j] := List.getElem?_eq_getElem hj
      have hd : decide (s.length ≤ j) = false := decide_eq_false (by omega)
      simp (maxSteps := 3000000) (maxDischargeDepth := 6) +contextual -implicitDefEqProofs only [amA M, amB, ↓slc_true, ↓slc_false, ↓slc_not, ↓fget_at, Nat.reduceBEq, Nat.reduceAdd, env, fargs, q_morph_language_match, neg0, hd, hx, matchF, e, qLex, cut_app, run_IndexByte M hS hX, index_any, run_letter M hN.letter, isV]
    · have hx : s[j]? = none := List.getElem?_eq_none (by omega)
      have hd : decide (s.length ≤ j) = true := decide_eq_true (by omega)
      simp (maxSteps := 3000000) (maxDischargeDepth := 6) +contextual -implicitDefEqProofs only [amA M, amB, ↓slc_true, ↓slc_false, ↓slc_not, ↓fget_at, Nat.reduceBEq, Nat.reduceAdd, env, fargs, q_morph_language_match, neg0, hd, hx, matchF, e, cut_app]

def allI {α : Type} (f : Nat → α → Bool) : Nat → List α → Bool
  | _, [] => true
  | i, x :: l => f i x && allI f (i + 1) l
def allE {α : Type} (f : Nat → α → Bool) : Nat → α → Option AV := fun i x => sel (f i x) none (some (.bool false))
theorem allI_first {α : Type} (f : Nat → α → Bool) (H : List AObj) (x : Option Out) : ∀ (l : List α) (i : Nat), orE (firstE (allE f) i l) H x = sel (allI f i l) x (some (.ret (.bool false), H))
  | [], _ => rfl
  | y :: l, i => by
    rw [firstE_cons, orE_orO, allI_first f H x l, allI]
    unfold allE
    cases f i y <;> rfl
theorem spl {H H0 : List AObj} (hN : NamesE E) (hS : SpE E) (hX : ExtE M) {l : Lex} {q : Str} {s : Str} {a : Nat} (ha : a ≤ maxL) {L : Str} (hLl : L.length = q.length) (hqs : q.length ≤ maxL) (hL : ∀ k, k < L.length → q[q.length - 1 - k]? = L[k]?) {p : Nat} {T : TypeId} (hp : H[p]? = some (.cells l.row T)) (hc : CutOk H0 H) (k : List Fra) : ∀ (n i : Nat) (He : List AObj), i + n = L.length →
    M.go a_morph_language_left H0 (.c l_morph_language_left_0 :: .lp ⟨(some [1, 2, 3, 4, 11, 12]), [], false⟩ l_morph_language_left_0 He :: .blk 0 :: .c (.lv []) :: k) (kv [(1, .str q), (2, .str s), (3, .int .i64 a), (4, .ptr p 0), (11, .int .i64 L.length), (12, .int .i64 i)]) H =
      orE (firstE (allE fun k c => matchF l.vowels c s ((a : Int) - 1 - (k : Int))) i (L.drop i)) (H.take H0.length) (M.go a_morph_language_left H0 k .leaf H)
  | 0, i, He, h => by
    have e : i = L.length := by omega
    subst e
    rw [go_head M l_morph_language_left_0.eq_1]
    simp (maxSteps := 3000000) (maxDischargeDepth := 6) +contextual -implicitDefEqProofs only [amA M, amB, ↓slc_true, ↓slc_false, ↓slc_not, ↓fget_at, Nat.reduceBEq, Nat.reduceAdd, env, fargs, q_morph_language_left, Nat.lt_irrefl, List.drop_length]
  | n + 1, i, He, h => by
    have hi : i < L.length := by omega
    have hx : L[i]? = some L[i] := List.getElem?_eq_getElem hi
    have hd : (L.drop i) = L[i] :: L.drop (i + 1) := List.drop_eq_getElem_cons hi
    have hm : L[i] ∈ L := List.getElem_mem hi
    have ih := fun He => spl (H := H) (H0 := H0) (hN := hN) (hS := hS) (hX := hX) (l := l) (q := q) (s := s) (a := a) (ha := ha) (L := L) (hLl := hLl) (hqs := hqs) (hL := hL) (p := p) (T := T) (hp := hp) hc k n (i + 1)  He (by omega)
    simp only [kv_cons, kv_nil] at ih
    have hq := (hL i hi).trans hx
    have e1 : IntKind.i64.wrap ((q.length : Int) - 1) = ((q.length - 1 : Nat) : Int) := wrap_p1 (by omega) hqs
    have e2 : IntKind.i64.wrap (((q.length - 1 : Nat) : Int) - (i : Int)) = ((q.length - 1 - i : Nat) : Int) := by
      simp only [maxL] at hqs; rw [wrap_i64 (by omega) (by omega)]; omega
    have e3 : IntKind.i64.wrap ((a : Int) - 1) = (a : Int) - 1 := by simp only [maxL] at ha; exact wrap_i64 (by omega) (by omega)
    have e4 : IntKind.i64.wrap ((a : Int) - 1 - (i : Int)) = (a : Int) - 1 - (i : Int) := by simp only [maxL] at ha hqs; exact wrap_i64 (by omega) (by omega)
    rw [go_head M l_morph_language_left_0.eq_1]
    simp (maxSteps := 3000000) (maxDischargeDepth := 6) +contextual -implicitDefEqProofs only [amA M, amB, ↓slc_true, ↓slc_false, ↓slc_not, ↓fget_at, Nat.reduceBEq, Nat.reduceAdd, env, fargs, q_morph_language_left, hx, hd, hi, ih, hq, e1, e2, e3, e4, hp, qLex, run_match M hN hS hX, wrap_s hi (show L.length ≤ maxL by omega), allE, hc]
def leftF (v p s : Str) (a : Nat) : Bool := allI (fun k c => matchF v c s ((a : Int) - 1 - (k : Int))) 0 p.reverse
theorem rev_get (q : Str) : ∀ k, k < q.reverse.length → q[q.length - 1 - k]? = q.reverse[k]? := fun k hk => by
  rw [List.getElem?_reverse (by simpa using hk)]
theorem run_left (hN : NamesE E) (hS : SpE E) (hX : ExtE M) {l : Lex} {q : Str} (hq : q.length ≤ maxL) (s : Str) {a : Nat} (ha : a ≤ maxL) (H : List AObj) :
    M.run f_morph_language_left [.agg l.row, .str q, .str s, .int .i64 a] H = some (.ret (.bool (leftF l.vowels q s a)), H) := by
  rw [run_c M hS.morph_language_left rfl (c := c_morph_language_left) rfl, c_morph_language_left]
  have h1 := fun k He => spl M hN hS hX (H := H ++ [.cells l.row t_morph_language]) (H0 := H) (l := l) (q := q) (s := s) ha (L := q.reverse) (by simp) hq (rev_get q) (p := H.length) (T := t_morph_language) (by rw [hp_get0]; rfl) (cut_app H _) k q.reverse.length 0 He (by omega)
  simp only [kv_cons, kv_nil, Int.ofNat_zero, List.drop_zero, allI_first, List.length_reverse] at h1
  simp (maxSteps := 3000000) (maxDischargeDepth := 6) +contextual -implicitDefEqProofs only [amA M, amB, ↓slc_true, ↓slc_false, ↓slc_not, ↓fget_at, Nat.reduceBEq, Nat.reduceAdd, env, fargs, q_morph_language_left, h1, leftF, cut_app]
theorem spr {H H0 : List AObj} (hN : NamesE E) (hS : SpE E) (hX : ExtE M) {l : Lex} {q : Str} {s : Str} {a : Nat} (ha : a + q.length ≤ maxL) {p : Nat} {T : TypeId} (hp : H[p]? = some (.cells l.row T)) (hc : CutOk H0 H) (k : List Fra) : ∀ (n i : Nat) (He : List AObj), i + n = q.length →
    M.go a_morph_language_right H0 (.c l_morph_language_right_0 :: .lp ⟨(some [1, 2, 3, 4, 11, 12]), [], false⟩ l_morph_language_right_0 He :: .blk 0 :: .c (.lv []) :: k) (kv [(1, .str q), (2, .str s), (3, .int .i64 a), (4, .ptr p 0), (11, .int .i64 q.length), (12, .int .i64 i)]) H =
      orE (firstE (allE fun k c => matchF l.vowels c s ((a + k : Nat) : Int)) i (q.drop i)) (H.take H0.length) (M.go a_morph_language_right H0 k .leaf H)
  | 0, i, He, h => by
    have e : i = q.length := by omega
    subst e
    rw [go_head M l_morph_language_right_0.eq_1]
    simp (maxSteps := 3000000) (maxDischargeDepth := 6) +contextual -implicitDefEqProofs only [amA M, amB, ↓slc_true, ↓slc_false, ↓slc_not, ↓fget_at, Nat.reduceBEq, Nat.reduceAdd, env, fargs, q_morph_language_right, Nat.lt_irrefl, List.drop_length]
  | n + 1, i, He, h => by
    have hi : i < q.length := by omega
    have hx : q[i]? = some q[i] := List.getElem?_eq_getElem hi
    have hd : (q.drop i) = q[i] :: q.drop (i + 1) := List.drop_eq_getElem_cons hi
    have hm : q[i] ∈ q := List.getElem_mem hi
    have ih := fun He => spr (H := H) (H0 := H0) (hN := hN) (hS := hS) (hX := hX) (l := l) (q := q) (s := s) (a := a) (ha := ha) (p := p) (T := T) (hp := hp) hc k n (i + 1)  He (by omega)
    simp only [kv_cons, kv_nil] at ih
    have e1 : IntKind.i64.wrap ((a : Int) + (i : Int)) = ((a + i : Nat) : Int) := by simp only [maxL] at ha; rw [wrap_i64 (by omega) (by omega)]; omega
    rw [go_head M l_morph_language_right_0.eq_1]
    simp (maxSteps := 3000000) (maxDischargeDepth := 6) +contextual -implicitDefEqProofs only [amA M, amB, ↓slc_true, ↓slc_false, ↓slc_not, ↓fget_at, Nat.reduceBEq, Nat.reduceAdd, env, fargs, q_morph_language_right, hx, hd, hi, ih, e1, hp, qLex, run_match M hN hS hX, wrap_s hi (show q.length ≤ maxL by omega), allE, hc]
def rightF (v p s : Str) (a : Nat) : Bool := allI (fun k c => matchF v c s ((a + k : Nat) : Int)) 0 p
theorem run_right (hN : NamesE E) (hS : SpE E) (hX : ExtE M) {l : Lex} {q : Str} (s : Str) {a : Nat} (ha : a + q.length ≤ maxL) (H : List AObj) :
    M.run f_morph_language_right [.agg l.row, .str q, .str s, .int .i64 a] H = some (.ret (.bool (rightF l.vowels q s a)), H) := by
  rw [run_c M hS.morph_language_right rfl (c := c_morph_language_right) rfl, c_morph_language_right]
  have h1 := fun k He => spr M hN hS hX (H := H ++ [.cells l.row t_morph_language]) (H0 := H) (l := l) (q := q) (s := s) ha (p := H.length) (T := t_morph_language) (by rw [hp_get0]; rfl) (cut_app H _) k q.length 0 He (by omega)
  simp only [kv_cons, kv_nil, Int.ofNat_zero, List.drop_zero, allI_first] at h1
  simp (maxSteps := 3000000) (maxDischargeDepth := 6) +contextual -implicitDefEqProofs only [amA M, amB, ↓slc_true, ↓slc_false, ↓slc_not, ↓fget_at, Nat.reduceBEq, Nat.reduceAdd, env, fargs, q_morph_language_right, h1, rightF, cut_app]

end Go.Am
end

section
set_option linter.unusedSimpArgs false
set_option linter.unusedVariables false
set_option maxRecDepth 100000
set_option maxHeartbeats 4000000
namespace Go.Am
open Go.RowKit
attribute [local congr] dsel_congr sel_c1 slc_cong gsel_congr go_congr aft_congr aftD_congr condR_congr backR_congr inR_congr at2_congr
variable {E : REnv} (M : Mach cdec E)

/-! Rewriting -/
def appF (v : Str) (x : Spell) (s : Str) (i : Nat) : Bool := hasPre (s.drop i) x.frm && (leftF v x.left s i && rightF v x.right s (i + x.frm.length))
/-- So many steps at most. -/
def rewr (v : Str) (x : Spell) (s : Str) : Nat → Nat → Str → Str
  | 0, _, w => w
  | n + 1, i, w => match s[i]? with
    | none => w
    | some c => match appF v x s i with
      | true => rewr v x s n (i + x.frm.length) (w ++ x.to)
      | false => rewr v x s n (i + 1) (w ++ [c])
def rewrF (v : Str) (x : Spell) (s : Str) : Str := rewr v x s (s.length + 1) 0 []
theorem rewr_len (v : Str) (x : Spell) (s : Str) (ht : x.to.length ≤ 6) : ∀ (n i : Nat) (w : Str), (rewr v x s n i w).length ≤ w.length + 6 * n
  | 0, i, w => by simp only [rewr]; omega
  | n + 1, i, w => by
    unfold rewr
    split
    · omega
    · split
      · have := rewr_len v x s ht n (i + x.frm.length) (w ++ x.to)
        simp only [List.length_append] at this
        omega
      · rename_i c _ _ _
        have := rewr_len v x s ht n (i + 1) (w ++ [c])
        simp only [List.length_append, List.length_singleton] at this
        omega
theorem rewrF_len (v : Str) (x : Spell) (s : Str) (ht : x.to.length ≤ 6) : (rewrF v x s).length ≤ 6 * (s.length + 1) := by
  have := rewr_len v x s ht (s.length + 1) 0 []
  simpa [rewrF] using this

theorem run_WriteStringA (hB : BldE E) (hX : ExtE M) (H L : List AObj) {w s : Str} {a : AV} (ha : a = .nilp ∨ a = .ptr (H.length + 1) 0) (h : w.length + s.length ≤ 140737488355328) :
    M.run f_strings_Builder_WriteString [.ptr (H.length + 1) 0, .str s] (H ++ (bTok w :: bCells a H.length w t_strings_Builder :: L)) = some (.ret (.tuple [.int .i64 s.length, .nilif]), H ++ (bTok (w ++ s) :: bCells (.ptr (H.length + 1) 0) H.length (w ++ s) t_strings_Builder :: L)) := by
  rcases ha with rfl | rfl
  · exact run_WriteString0 M (T := 0) hB hX H L h
  · exact run_WriteString1 M hB hX H L h
theorem run_WriteByteA (hB : BldE E) (hX : ExtE M) (H L : List AObj) {w : Str} {c : UInt8} {a : AV} (ha : a = .nilp ∨ a = .ptr (H.length + 1) 0) (h : w.length + 1 ≤ 140737488355328) :
    M.run f_strings_Builder_WriteByte [.ptr (H.length + 1) 0, .int .u8 c.toNat] (H ++ (bTok w :: bCells a H.length w t_strings_Builder :: L)) = some (.ret .nilif, H ++ (bTok (w ++ [c]) :: bCells (.ptr (H.length + 1) 0) H.length (w ++ [c]) t_strings_Builder :: L)) := by
  rcases ha with rfl | rfl
  · exact run_WriteByte0 M (T := 0) hB hX H L h
  · exact run_WriteByte1 M hB hX H L h

theorem spw (hN : NamesE E) (hS : SpE E) (hX : ExtE M) (hB : BldE E) {l : Lex} {x : Spell} {n0 : Nat} (hx0 : x.ok n0) (h0 : x.frm ≠ []) (ht : x.to.length ≤ 6) (hfr : x.frm.length ≤ 6) (hri : x.right.length ≤ 6) {s : Str} (hs : s.length ≤ 1000000)
    {H H0 : List AObj} {p q : Nat} {T T2 : TypeId} (hp : H[p]? = some (.cells l.row T)) (hq : H[q]? = some (.cells x.row T2)) : ∀ (n i : Nat) (w : Str) (a : AV), (a = .nilp ∨ a = .ptr (H.length + 1) 0) → s.length < i + n → i ≤ s.length + 6 → w.length ≤ 6 * i →
    ∃ a', ∀ (k : List Fra) (He : List AObj), M.go a_morph_language_spell H0 (.c l_morph_language_spell_0 :: .lp ⟨(some [2, 3, 4, 8, 9]), [], false⟩ l_morph_language_spell_0 He :: .blk 0 :: .c (.lv [8]) :: k) (kv [(2, .str s), (3, .ptr p 0), (4, .ptr q 0), (8, .ptr (H.length + 1) 0), (9, .int .i64 i)]) (H ++ [bTok w, bCells a H.length w t_strings_Builder]) =
      M.go a_morph_language_spell H0 k (kv [(8, .ptr (H.length + 1) 0)]) (H ++ [bTok (rewr l.vowels x s n i w), bCells a' H.length (rewr l.vowels x s n i w) t_strings_Builder])
  | 0, i, w, a, ha, hn, hi, hw => by
    refine ⟨a, fun k He => ?_⟩
    have e : ¬ i < s.length := by omega
    rw [rewr]
    rw [go_head M l_morph_language_spell_0.eq_1]
    simp (maxSteps := 3000000) (maxDischargeDepth := 6) +contextual -implicitDefEqProofs only [amA M, amB, ↓slc_true, ↓slc_false, ↓slc_not, ↓fget_at, Nat.reduceBEq, Nat.reduceAdd, env, fargs, q_morph_language_spell, e]
  | n + 1, i, w, a, ha, hn, hi, hw => by
    have hp' := fun L => hp_getl (L := L) hp
    have hq' := fun L => hp_getl (L := L) hq
    by_cases h : i < s.length
    · have hx : s[i]? = some s[i] := List.getElem?_eq_getElem h
      have hf : 0 < x.frm.length := by cases hxf : x.frm with
        | nil => exact absurd hxf h0
        | cons a b => simp
      have l1 := fun H => run_left M hN hS hX (l := l) hx0.left s (show i ≤ maxL by simp only [maxL]; omega) H
      have r1 := fun H => run_right M hN hS hX (l := l) (q := x.right) s (show (i + x.frm.length) + x.right.length ≤ maxL by simp only [maxL]; omega) H
      have e1 : IntKind.i64.wrap ((i : Int) + (x.frm.length : Int)) = ((i + x.frm.length : Nat) : Int) := by rw [wrap_i64 (by omega) (by omega)]; omega
      cases hA : appF l.vowels x s i with
      | true =>
        obtain ⟨a', ih⟩ := spw hN hS hX hB hx0 h0 ht hfr hri hs hp hq n (i + x.frm.length) (w ++ x.to) (.ptr (H.length + 1) 0) (.inr rfl) (by omega) (by omega) (by simp; omega)
        refine ⟨a', fun k He => ?_⟩
        simp only [kv_cons, kv_nil] at ih
        rw [rewr, hx, hA]
        simp only [appF, Bool.and_eq_true] at hA
        have w1 := run_WriteStringA M hB hX H [] (w := w) (s := x.to) ha (by omega)
        rw [go_head M l_morph_language_spell_0.eq_1]
        simp (maxSteps := 3000000) (maxDischargeDepth := 6) +contextual -implicitDefEqProofs only [amA M, amB, ↓slc_true, ↓slc_false, ↓slc_not, ↓fget_at, Nat.reduceBEq, Nat.reduceAdd, env, fargs, q_morph_language_spell, h, hx, ih, hp', hq', qLex, qSpell, sls_from (Nat.le_of_lt h), run_HasPrefix M hS, l1, r1, e1, hA.1, hA.2.1, hA.2.2, w1]
        all_goals exact ih _ _
      | false =>
        obtain ⟨a', ih⟩ := spw hN hS hX hB hx0 h0 ht hfr hri hs hp hq n (i + 1) (w ++ [s[i]]) (.ptr (H.length + 1) 0) (.inr rfl) (by omega) (by omega) (by simp; omega)
        refine ⟨a', fun k He => ?_⟩
        simp only [kv_cons, kv_nil] at ih
        rw [rewr, hx, hA]
        have w1 := run_WriteByteA M hB hX H [] (w := w) (c := s[i]) ha (by omega)
        have hA2 : (hasPre (s.drop i) x.frm && leftF l.vowels x.left s i && rightF l.vowels x.right s (i + x.frm.length)) = false := by rw [← hA, appF, Bool.and_assoc]
        rw [go_head M l_morph_language_spell_0.eq_1]
        cases c1 : hasPre (s.drop i) x.frm with
        | false =>
          simp (maxSteps := 3000000) (maxDischargeDepth := 6) +contextual -implicitDefEqProofs only [amA M, amB, ↓slc_true, ↓slc_false, ↓slc_not, ↓fget_at, Nat.reduceBEq, Nat.reduceAdd, env, fargs, q_morph_language_spell, h, hx, ih, hp', hq', qLex, qSpell, sls_from (Nat.le_of_lt h), run_HasPrefix M hS, c1, w1, wrap_s h (show s.length ≤ maxL by simp only [maxL]; omega)]
          all_goals exact ih _ _
        | true =>
          cases c2 : leftF l.vowels x.left s i with
          | false =>
            simp (maxSteps := 3000000) (maxDischargeDepth := 6) +contextual -implicitDefEqProofs only [amA M, amB, ↓slc_true, ↓slc_false, ↓slc_not, ↓fget_at, Nat.reduceBEq, Nat.reduceAdd, env, fargs, q_morph_language_spell, h, hx, ih, hp', hq', qLex, qSpell, sls_from (Nat.le_of_lt h), run_HasPrefix M hS, l1, c1, c2, w1, wrap_s h (show s.length ≤ maxL by simp only [maxL]; omega)]
            all_goals exact ih _ _
          | true =>
            rw [c1, c2] at hA2
            simp only [Bool.true_and] at hA2
            simp (maxSteps := 3000000) (maxDischargeDepth := 6) +contextual -implicitDefEqProofs only [amA M, amB, ↓slc_true, ↓slc_false, ↓slc_not, ↓fget_at, Nat.reduceBEq, Nat.reduceAdd, env, fargs, q_morph_language_spell, h, hx, ih, hp', hq', qLex, qSpell, sls_from (Nat.le_of_lt h), run_HasPrefix M hS, l1, r1, e1, c1, c2, hA2, w1, wrap_s h (show s.length ≤ maxL by simp only [maxL]; omega)]
            all_goals exact ih _ _
    · refine ⟨a, fun k He => ?_⟩
      have hx : s[i]? = none := List.getElem?_eq_none (by omega)
      rw [rewr, hx]
      rw [go_head M l_morph_language_spell_0.eq_1]
      simp (maxSteps := 3000000) (maxDischargeDepth := 6) +contextual -implicitDefEqProofs only [amA M, amB, ↓slc_true, ↓slc_false, ↓slc_not, ↓fget_at, Nat.reduceBEq, Nat.reduceAdd, env, fargs, q_morph_language_spell, h]

theorem run_spell (hN : NamesE E) (hS : SpE E) (hX : ExtE M) (hB : BldE E) {l : Lex} {x : Spell} {n0 : Nat} (hx0 : x.ok n0) (h0 : x.frm ≠ []) (ht : x.to.length ≤ 6) (hfr : x.frm.length ≤ 6) (hri : x.right.length ≤ 6) {s : Str} (hs : s.length ≤ 1000000) (H : List AObj) :
    M.run f_morph_language_spell [.agg l.row, .agg x.row, .str s] H = some (.ret (.tuple [.str (rewrF l.vowels x s), .bool (decide (((rewrF l.vowels x s).length : Int) ≤ 512))]), H) := by
  rw [run_c M hS.morph_language_spell rfl (c := c_morph_language_spell) rfl, c_morph_language_spell]
  have hlen : (rewrF l.vowels x s).length ≤ 9223372036854775807 := by have := rewrF_len l.vowels x s ht; omega
  obtain ⟨a', h1⟩ := spw M hN hS hX hB hx0 h0 ht hfr hri hs (l := l) (H := H ++ [.cells l.row t_morph_language, .cells x.row t_api_Spell]) (H0 := H) (p := H.length) (q := H.length + 1) (T := t_morph_language) (T2 := t_api_Spell) (by rw [hp_get0]; rfl) (by rw [hp_getk]; rfl) (s.length + 1) 0 [] .nilp (.inl rfl) (by omega) (by omega) (by simp)
  have h2 := run_bString M hB (H ++ [.cells l.row t_morph_language, .cells x.row t_api_Spell]) [] (a := a') (T := t_strings_Builder) hlen
  have h3 := run_bLen M hB (H ++ [.cells l.row t_morph_language, .cells x.row t_api_Spell]) [] (w := rewrF l.vowels x s) (a := a') (T := t_strings_Builder)
  rw [← rewrF] at h1
  simp only [kv_cons, kv_nil, Int.ofNat_zero, lo_app3, lo_app1, lo_app0, lo_len, lo_len1, lo_len0, Nat.zero_add, Nat.reduceAdd, Nat.add_assoc, (show bTok [] = .tok 0 t_uint8 from rfl), (show ∀ a n T, bCells a n [] T = .cells [a, .slice (.own n) 1 []] T from fun _ _ _ => rfl)] at h1 h2 h3
  simp (maxSteps := 3000000) (maxDischargeDepth := 6) +contextual -implicitDefEqProofs only [amA M, amB, ↓slc_true, ↓slc_false, ↓slc_not, ↓fget_at, Nat.reduceBEq, Nat.reduceAdd, env, fargs, q_morph_language_spell, amG, AV.cell, Nat.reduceMul, Nat.reduceLeDiff, qU, Nat.add_assoc, h1, h2, h3, wk_tuple]

end Go.Am
end

section
set_option linter.unusedSimpArgs false
set_option linter.unusedVariables false
set_option maxRecDepth 100000
set_option maxHeartbeats 4000000
namespace Go.Am
open Go.RowKit
attribute [local congr] dsel_congr sel_c1 slc_cong gsel_congr go_congr aft_congr aftD_congr condR_congr backR_congr inR_congr at2_congr
variable {E : REnv} (M : Mach cdec E)

structure RSpE (E : REnv) : Prop where
  truchmanref02_matches : E.fn f_truchmanref02_matches = some a_truchmanref02_matches
  truchmanref02_applies : E.fn f_truchmanref02_applies = some a_truchmanref02_applies
  truchmanref02_rewrite : E.fn f_truchmanref02_rewrite = some a_truchmanref02_rewrite
  truchmanref02_Spell : E.fn f_truchmanref02_Spell = some a_truchmanref02_Spell

theorem rma {H H0 : List AObj} {l : Lex} {n0 : Nat} (hl : l.ok n0) {pc : UInt8} {s : Str} {j : Nat} (hj : j < s.length) {p : Nat} {T : TypeId} (hp : H[p]? = some (.cells l.row T)) (k : List Fra) : ∀ (n i : Nat) (b : Bool) (He : List AObj), i + n = (l.vowels).length →
    M.go a_truchmanref02_matches H0 (.c l_truchmanref02_matches_0 :: .lp ⟨(some [1, 2, 3, 4, 9, 10]), [], false⟩ l_truchmanref02_matches_0 He :: .blk 0 :: .c (.lv [1, 2, 3, 9]) :: k) (kv [(1, .int .u8 pc.toNat), (2, .str s), (3, .int .i64 j), (4, .ptr p 0), (9, .bool b), (10, .int .i64 i)]) H =
      (M.go a_truchmanref02_matches H0 k (kv [(1, .int .u8 pc.toNat), (2, .str s), (3, .int .i64 j), (9, .bool (b || (l.vowels.drop i).any fun d => d.toNat == s[j].toNat))]) H)
  | 0, i, b, He, h => by
    have e : i = (l.vowels).length := by omega
    subst e
    rw [go_head M l_truchmanref02_matches_0.eq_1]
    simp (maxSteps := 3000000) (maxDischargeDepth := 6) +contextual -implicitDefEqProofs only [amA M, amB, ↓slc_true, ↓slc_false, ↓slc_not, ↓fget_at, Nat.reduceBEq, Nat.reduceAdd, env, fargs, q_truchmanref02_matches, Nat.lt_irrefl, List.drop_length, qLex, hp, List.any_nil]
  | n + 1, i, b, He, h => by
    have hi : i < (l.vowels).length := by omega
    have hx : (l.vowels)[i]? = some (l.vowels)[i] := List.getElem?_eq_getElem hi
    have hd : ((l.vowels).drop i) = (l.vowels)[i] :: (l.vowels).drop (i + 1) := List.drop_eq_getElem_cons hi
    have hm : (l.vowels)[i] ∈ (l.vowels) := List.getElem_mem hi
    have ih := fun b He => rma (H := H) (H0 := H0) (l := l) (n0 := n0) (hl := hl) (pc := pc) (s := s) (j := j) (hj := hj) (p := p) (T := T) (hp := hp) k n (i + 1) b He (by omega)
    simp only [kv_cons, kv_nil] at ih
    have hxj : s[j]? = some s[j] := List.getElem?_eq_getElem hj
    have hlv := hl.vowels
    rw [go_head M l_truchmanref02_matches_0.eq_1]
    simp (maxSteps := 3000000) (maxDischargeDepth := 6) +contextual -implicitDefEqProofs only [amA M, amB, ↓slc_true, ↓slc_false, ↓slc_not, ↓fget_at, Nat.reduceBEq, Nat.reduceAdd, env, fargs, q_truchmanref02_matches, hx, hd, hi, ih, hxj, qLex, hp, wrap_s hi hlv, List.any_cons, Bool.or_assoc]
theorem toNat_beq (c d : UInt8) : (c.toNat == d.toNat) = (c == d) := by
  rw [Bool.eq_iff_iff]; simp [UInt8.toNat_inj]
theorem match_eq {v : Str} (hv : v.all isLo = true) (p : UInt8) (s : Str) (c : UInt8) : sel ((p.toNat : Int) == 67) (isLo c && !isV v c) (sel ((p.toNat : Int) == 86) (isLo c && isV v c) (p.toNat == c.toNat)) = sel ((p.toNat : Int) == 86) (isV v c) (sel ((p.toNat : Int) == 67) (isLo c && !isV v c) (p.toNat == c.toNat)) := by
  have h : isV v c = true → isLo c = true := fun h => by
    obtain ⟨d, hd, he⟩ := List.any_eq_true.1 h
    rw [← eq_of_beq he]
    exact List.all_eq_true.1 hv d hd
  by_cases h1 : (p.toNat : Int) = 67
  · have h2 : ((p.toNat : Int) == 86) = false := by rw [h1]; rfl
    have h3 : ((p.toNat : Int) == 67) = true := by simpa using h1
    rw [h2, h3]; rfl
  · have h3 : ((p.toNat : Int) == 67) = false := by simpa using h1
    rw [h3]
    cases hV : isV v c with
    | true => rw [h hV]; rfl
    | false => cases ((p.toNat : Int) == 86) <;> simp [sel]
theorem run_rmatches (hN : NamesE E) (hR : RSpE E) {l : Lex} {n0 : Nat} (hl : l.ok n0) (hv : l.vowels.all isLo = true) (p : UInt8) (s : Str) (at_ : Int) (H : List AObj) :
    M.run f_truchmanref02_matches [.agg l.row, .int .u8 p.toNat, .str s, .int .i64 at_] H = some (.ret (.bool (matchF l.vowels p s at_)), H) := by
  rw [run_c M hR.truchmanref02_matches rfl (c := c_truchmanref02_matches) rfl, c_truchmanref02_matches]
  by_cases h : at_ < 0
  · have e : symAt s at_ = none := if_pos h
    have hd : decide (at_ < 0) = true := decide_eq_true h
    simp (maxSteps := 3000000) (maxDischargeDepth := 6) +contextual -implicitDefEqProofs only [amA M, amB, ↓slc_true, ↓slc_false, ↓slc_not, ↓fget_at, Nat.reduceBEq, Nat.reduceAdd, env, fargs, q_truchmanref02_matches, hd, matchF, e, cut_app]
  · obtain ⟨j, rfl⟩ : ∃ j : Nat, at_ = (j : Int) := ⟨at_.toNat, by omega⟩
    have e : symAt s (j : Int) = s[j]? := by simp [symAt, h]
    by_cases hj : j < s.length
    · have hx : s[j]? = some s[j] := List.getElem?_eq_getElem hj
      have hd : decide (s.length ≤ j) = false := decide_eq_false (by omega)
      have h1 := fun b k He => rma M (H := H ++ [.cells l.row t_api_Lexicon]) (H0 := H) hl (pc := p) (s := s) (j := j) hj (p := H.length) (T := t_api_Lexicon) (by rw [hp_get0]; rfl) k l.vowels.length 0 b He (by omega)
      simp only [kv_cons, kv_nil, Int.ofNat_zero, List.drop_zero, toNat_beq] at h1
      have e2 := match_eq hv p s s[j]
      simp (maxSteps := 3000000) (maxDischargeDepth := 6) +contextual -implicitDefEqProofs only [amA M, amB, ↓slc_true, ↓slc_false, ↓slc_not, ↓fget_at, Nat.reduceBEq, Nat.reduceAdd, env, fargs, q_truchmanref02_matches, neg0, hd, hx, matchF, e, h1, cut_app, run_Letter M hN.Letter, isV]
      exact congrArg (fun b => some (ARes.ret (AV.bool b), H)) e2.symm
    · have hx : s[j]? = none := List.getElem?_eq_none (by omega)
      have hd : decide (s.length ≤ j) = true := decide_eq_true (by omega)
      simp (maxSteps := 3000000) (maxDischargeDepth := 6) +contextual -implicitDefEqProofs only [amA M, amB, ↓slc_true, ↓slc_false, ↓slc_not, ↓fget_at, Nat.reduceBEq, Nat.reduceAdd, env, fargs, q_truchmanref02_matches, neg0, hd, hx, matchF, e, cut_app]

theorem rap0 {H H0 : List AObj} (hN : NamesE E) (hR : RSpE E) {l : Lex} {n0 : Nat} (hl : l.ok n0) (hv : l.vowels.all isLo = true) {x : Spell} (hx0 : x.ok n0) {s : Str} {a : Nat} (ha : a ≤ maxL) {L : Str} (hLl : L.length = x.left.length) (hL : ∀ k, k < L.length → x.left[x.left.length - 1 - k]? = L[k]?) {p q : Nat} {T T2 : TypeId} (hp : H[p]? = some (.cells l.row T)) (hqq : H[q]? = some (.cells x.row T2)) (hc : CutOk H0 H) (k : List Fra) : ∀ (n i : Nat) (He : List AObj), i + n = L.length →
    M.go a_truchmanref02_applies H0 (.c l_truchmanref02_applies_0 :: .lp ⟨(some [2, 3, 4, 5, 9]), [], false⟩ l_truchmanref02_applies_0 He :: .blk 0 :: .c (.lv [2, 3, 4, 5]) :: k) (kv [(2, .str s), (3, .int .i64 a), (4, .ptr p 0), (5, .ptr q 0), (9, .int .i64 i)]) H =
      orE (firstE (allE fun k c => matchF l.vowels c s ((a : Int) - 1 - (k : Int))) i (L.drop i)) (H.take H0.length) (M.go a_truchmanref02_applies H0 k (kv [(2, .str s), (3, .int .i64 a), (4, .ptr p 0), (5, .ptr q 0)]) H)
  | 0, i, He, h => by
    have e : i = L.length := by omega
    subst e
    rw [go_head M l_truchmanref02_applies_0.eq_1]
    simp (maxSteps := 3000000) (maxDischargeDepth := 6) +contextual -implicitDefEqProofs only [amA M, amB, ↓slc_true, ↓slc_false, ↓slc_not, ↓fget_at, Nat.reduceBEq, Nat.reduceAdd, env, fargs, q_truchmanref02_applies, Nat.lt_irrefl, List.drop_length, qSpell, hqq, (show decide (L.length < x.left.length) = false from decide_eq_false (by omega))]
  | n + 1, i, He, h => by
    have hi : i < L.length := by omega
    have hx : L[i]? = some L[i] := List.getElem?_eq_getElem hi
    have hd : (L.drop i) = L[i] :: L.drop (i + 1) := List.drop_eq_getElem_cons hi
    have hm : L[i] ∈ L := List.getElem_mem hi
    have ih := fun He => rap0 (H := H) (H0 := H0) (hN := hN) (hR := hR) (l := l) (n0 := n0) (hl := hl) (hv := hv) (x := x) (hx0 := hx0) (s := s) (a := a) (ha := ha) (L := L) (hLl := hLl) (hL := hL) (p := p) (q := q) (T := T) (T2 := T2) (hp := hp) (hqq := hqq) hc k n (i + 1)  He (by omega)
    simp only [kv_cons, kv_nil] at ih
    have hq := (hL i hi).trans hx
    have hqs := hx0.left
    have hil : decide (i < x.left.length) = true := decide_eq_true (by omega)
    have e1 : IntKind.i64.wrap ((x.left.length : Int) - 1) = ((x.left.length - 1 : Nat) : Int) := wrap_p1 (by omega) hqs
    have e2 : IntKind.i64.wrap (((x.left.length - 1 : Nat) : Int) - (i : Int)) = ((x.left.length - 1 - i : Nat) : Int) := by
      simp only [maxL] at hqs; rw [wrap_i64 (by omega) (by omega)]; omega
    have e3 : IntKind.i64.wrap ((a : Int) - 1) = (a : Int) - 1 := by simp only [maxL] at ha; exact wrap_i64 (by omega) (by omega)
    have e4 : IntKind.i64.wrap ((a : Int) - 1 - (i : Int)) = (a : Int) - 1 - (i : Int) := by simp only [maxL] at ha hqs; exact wrap_i64 (by omega) (by omega)
    rw [go_head M l_truchmanref02_applies_0.eq_1]
    simp (maxSteps := 3000000) (maxDischargeDepth := 6) +contextual -implicitDefEqProofs only [amA M, amB, ↓slc_true, ↓slc_false, ↓slc_not, ↓fget_at, Nat.reduceBEq, Nat.reduceAdd, env, fargs, q_truchmanref02_applies, hx, hd, hi, ih, hq, hil, e1, e2, e3, e4, hp, hqq, qLex, qSpell, run_rmatches M hN hR hl hv, wrap_s hi (show L.length ≤ maxL by omega), allE, hc]
theorem rap1 {H H0 : List AObj} (hN : NamesE E) (hR : RSpE E) {l : Lex} {n0 : Nat} (hl : l.ok n0) (hv : l.vowels.all isLo = true) {x : Spell} {s : Str} {a : Nat} (ha : a + x.frm.length + x.right.length ≤ maxL) {p q : Nat} {T T2 : TypeId} (hp : H[p]? = some (.cells l.row T)) (hqq : H[q]? = some (.cells x.row T2)) (hc : CutOk H0 H) (k : List Fra) : ∀ (n i : Nat) (He : List AObj), i + n = (x.right).length →
    M.go a_truchmanref02_applies H0 (.c l_truchmanref02_applies_1 :: .lp ⟨(some [2, 3, 4, 5, 10]), [], false⟩ l_truchmanref02_applies_1 He :: .blk 2 :: .c (.lv []) :: k) (kv [(2, .str s), (3, .int .i64 a), (4, .ptr p 0), (5, .ptr q 0), (10, .int .i64 i)]) H =
      orE (firstE (allE fun k c => matchF l.vowels c s ((a + x.frm.length + k : Nat) : Int)) i (x.right.drop i)) (H.take H0.length) (M.go a_truchmanref02_applies H0 k .leaf H)
  | 0, i, He, h => by
    have e : i = (x.right).length := by omega
    subst e
    rw [go_head M l_truchmanref02_applies_1.eq_1]
    simp (maxSteps := 3000000) (maxDischargeDepth := 6) +contextual -implicitDefEqProofs only [amA M, amB, ↓slc_true, ↓slc_false, ↓slc_not, ↓fget_at, Nat.reduceBEq, Nat.reduceAdd, env, fargs, q_truchmanref02_applies, Nat.lt_irrefl, List.drop_length, qSpell, hqq]
  | n + 1, i, He, h => by
    have hi : i < (x.right).length := by omega
    have hx : (x.right)[i]? = some (x.right)[i] := List.getElem?_eq_getElem hi
    have hd : ((x.right).drop i) = (x.right)[i] :: (x.right).drop (i + 1) := List.drop_eq_getElem_cons hi
    have hm : (x.right)[i] ∈ (x.right) := List.getElem_mem hi
    have ih := fun He => rap1 (H := H) (H0 := H0) (hN := hN) (hR := hR) (l := l) (n0 := n0) (hl := hl) (hv := hv) (x := x) (s := s) (a := a) (ha := ha) (p := p) (q := q) (T := T) (T2 := T2) (hp := hp) (hqq := hqq) hc k n (i + 1)  He (by omega)
    simp only [kv_cons, kv_nil] at ih
    have e1 : IntKind.i64.wrap ((a : Int) + (x.frm.length : Int)) = ((a + x.frm.length : Nat) : Int) := by simp only [maxL] at ha; rw [wrap_i64 (by omega) (by omega)]; omega
    have e2 : IntKind.i64.wrap (((a + x.frm.length : Nat) : Int) + (i : Int)) = ((a + x.frm.length + i : Nat) : Int) := by simp only [maxL] at ha; rw [wrap_i64 (by omega) (by omega)]; omega
    rw [go_head M l_truchmanref02_applies_1.eq_1]
    simp (maxSteps := 3000000) (maxDischargeDepth := 6) +contextual -implicitDefEqProofs only [amA M, amB, ↓slc_true, ↓slc_false, ↓slc_not, ↓fget_at, Nat.reduceBEq, Nat.reduceAdd, env, fargs, q_truchmanref02_applies, hx, hd, hi, ih, e1, e2, hp, hqq, qLex, qSpell, run_rmatches M hN hR hl hv, wrap_s hi (show x.right.length ≤ maxL by omega), allE, hc]

theorem pre_eq {s f : Str} {i : Nat} (h : i ≤ s.length) : hasPre (s.drop i) f = (!decide (s.length < i + f.length) && ((s.drop i).take f.length == f)) := by
  unfold hasPre
  congr 1
  rw [List.length_drop, Bool.eq_iff_iff]; simp; omega
theorem run_rapplies (hN : NamesE E) (hR : RSpE E) {l : Lex} {n0 : Nat} (hl : l.ok n0) (hv : l.vowels.all isLo = true) {x : Spell} (hx0 : x.ok n0) {s : Str} {a : Nat} (hs : a ≤ s.length) (ha : s.length + x.frm.length + x.right.length ≤ maxL) (H : List AObj) :
    M.run f_truchmanref02_applies [.agg l.row, .agg x.row, .str s, .int .i64 a] H = some (.ret (.bool (appF l.vowels x s a)), H) := by
  rw [run_c M hR.truchmanref02_applies rfl (c := c_truchmanref02_applies) rfl, c_truchmanref02_applies]
  have h0 := fun k He => rap0 M hN hR hl hv hx0 (H := H ++ [.cells l.row t_api_Lexicon, .cells x.row t_api_Spell]) (H0 := H) (s := s) (a := a) (by omega) (L := x.left.reverse) (by simp) (rev_get x.left) (p := H.length) (q := H.length + 1) (T := t_api_Lexicon) (T2 := t_api_Spell) (by rw [hp_get0]; rfl) (by rw [hp_getk]; rfl) (cut_app H _) k x.left.reverse.length 0 He (by omega)
  have h1 := fun k He => rap1 M hN hR hl hv (x := x) (H := H ++ [.cells l.row t_api_Lexicon, .cells x.row t_api_Spell]) (H0 := H) (s := s) (a := a) (by omega) (p := H.length) (q := H.length + 1) (T := t_api_Lexicon) (T2 := t_api_Spell) (by rw [hp_get0]; rfl) (by rw [hp_getk]; rfl) (cut_app H _) k x.right.length 0 He (by omega)
  simp only [kv_cons, kv_nil, Int.ofNat_zero, List.drop_zero, allI_first, List.length_reverse, hp_take] at h0 h1
  have e1 : IntKind.i64.wrap ((a : Int) + (x.frm.length : Int)) = ((a + x.frm.length : Nat) : Int) := by simp only [maxL] at ha; rw [wrap_i64 (by omega) (by omega)]; omega
  rw [appF, pre_eq hs]
  by_cases hc : s.length < a + x.frm.length
  · have hd : decide (s.length < a + x.frm.length) = true := decide_eq_true hc
    simp (maxSteps := 3000000) (maxDischargeDepth := 6) +contextual -implicitDefEqProofs only [amA M, amB, ↓slc_true, ↓slc_false, ↓slc_not, ↓fget_at, Nat.reduceBEq, Nat.reduceAdd, env, fargs, q_truchmanref02_applies, e1, hd, qSpell, cut_app]
  · have hd : decide (s.length < a + x.frm.length) = false := decide_eq_false hc
    have e2 := sls_both (s := s) (k := .i64) (k' := .i64) (i := a) (j := a + x.frm.length) (by omega) (by omega)
    rw [Nat.add_sub_cancel_left] at e2
    simp (maxSteps := 3000000) (maxDischargeDepth := 6) +contextual -implicitDefEqProofs only [amA M, amB, ↓slc_true, ↓slc_false, ↓slc_not, ↓fget_at, Nat.reduceBEq, Nat.reduceAdd, env, fargs, q_truchmanref02_applies, e1, e2, hd, qSpell, h0, h1, cut_app, leftF, rightF]

end Go.Am
end

section
set_option linter.unusedSimpArgs false
set_option linter.unusedVariables false
set_option maxRecDepth 100000
set_option maxHeartbeats 4000000
namespace Go.Am
open Go.RowKit
attribute [local congr] dsel_congr sel_c1 slc_cong gsel_congr go_congr aft_congr aftD_congr condR_congr backR_congr inR_congr at2_congr
variable {E : REnv} (M : Mach cdec E)

theorem st_addO {s t : Str} (h : s.length + t.length < 9223372036854775808) : astrOp .add s t = some (.str (s ++ t)) := st_add h
theorem rrw (hN : NamesE E) (hR : RSpE E) {l : Lex} {n0 : Nat} (hl : l.ok n0) (hv : l.vowels.all isLo = true) {x : Spell} (hx0 : x.ok n0) (h0 : x.frm ≠ []) (ht : x.to.length ≤ 6) (hfr : x.frm.length ≤ 6) (hri : x.right.length ≤ 6) {s : Str} (hs : s.length ≤ 1000000)
    {H H0 : List AObj} {p q : Nat} {T T2 : TypeId} (hp : H[p]? = some (.cells l.row T)) (hq : H[q]? = some (.cells x.row T2)) (k : List Fra) : ∀ (n i : Nat) (w : Str) (He : List AObj), s.length < i + n → i ≤ s.length + 6 → w.length ≤ 6 * i →
    M.go a_truchmanref02_rewrite H0 (.c l_truchmanref02_rewrite_0 :: .lp ⟨(some [2, 3, 4, 8, 9]), [], false⟩ l_truchmanref02_rewrite_0 He :: .blk 0 :: .c (.lv [8]) :: k) (kv [(2, .str s), (3, .ptr p 0), (4, .ptr q 0), (8, .str w), (9, .int .i64 i)]) H = M.go a_truchmanref02_rewrite H0 k (kv [(8, .str (rewr l.vowels x s n i w))]) H
  | 0, i, w, He, hn, hi, hw => by
    have e : ¬ i < s.length := by omega
    rw [rewr]
    rw [go_head M l_truchmanref02_rewrite_0.eq_1]
    simp (maxSteps := 3000000) (maxDischargeDepth := 6) +contextual -implicitDefEqProofs only [amA M, amB, ↓slc_true, ↓slc_false, ↓slc_not, ↓fget_at, Nat.reduceBEq, Nat.reduceAdd, env, fargs, q_truchmanref02_rewrite, e]
  | n + 1, i, w, He, hn, hi, hw => by
    by_cases h : i < s.length
    · have hx : s[i]? = some s[i] := List.getElem?_eq_getElem h
      have hf : 0 < x.frm.length := by cases hxf : x.frm with
        | nil => exact absurd hxf h0
        | cons a b => simp
      have e1 : IntKind.i64.wrap ((i : Int) + (x.frm.length : Int)) = ((i + x.frm.length : Nat) : Int) := by rw [wrap_i64 (by omega) (by omega)]; omega
      have a1 := fun H => run_rapplies M hN hR hl hv hx0 (s := s) (a := i) (by omega) (by simp only [maxL]; omega) H
      cases hA : appF l.vowels x s i with
      | true =>
        have ih := fun He => rrw (H0 := H0) hN hR hl hv hx0 h0 ht hfr hri hs hp hq k n (i + x.frm.length) (w ++ x.to) He (by omega) (by omega) (by simp; omega)
        simp only [kv_cons, kv_nil] at ih
        rw [rewr, hx, hA]
        rw [hA] at a1
        rw [go_head M l_truchmanref02_rewrite_0.eq_1]
        simp (maxSteps := 3000000) (maxDischargeDepth := 6) +contextual -implicitDefEqProofs only [amA M, amB, ↓slc_true, ↓slc_false, ↓slc_not, ↓fget_at, Nat.reduceBEq, Nat.reduceAdd, env, fargs, q_truchmanref02_rewrite, h, hx, ih, hp, hq, qLex, qSpell, a1, e1, st_addO (s := w) (t := x.to) (by omega)]
      | false =>
        have ih := fun He => rrw (H0 := H0) hN hR hl hv hx0 h0 ht hfr hri hs hp hq k n (i + 1) (w ++ [s[i]]) He (by omega) (by omega) (by simp; omega)
        simp only [kv_cons, kv_nil] at ih
        rw [rewr, hx, hA]
        rw [hA] at a1
        have e2 := sls_both (s := s) (k := .i64) (k' := .i64) (i := i) (j := i + 1) (by omega) (by omega)
        rw [Nat.add_sub_cancel_left, List.drop_eq_getElem_cons h] at e2
        simp only [List.take_succ_cons, List.take_zero] at e2
        rw [go_head M l_truchmanref02_rewrite_0.eq_1]
        simp (maxSteps := 3000000) (maxDischargeDepth := 6) +contextual -implicitDefEqProofs only [amA M, amB, ↓slc_true, ↓slc_false, ↓slc_not, ↓fget_at, Nat.reduceBEq, Nat.reduceAdd, env, fargs, q_truchmanref02_rewrite, h, hx, ih, hp, hq, qLex, qSpell, a1, e2, wrap_s h (show s.length ≤ maxL by simp only [maxL]; omega), st_addO (s := w) (t := [s[i]]) (by simp; omega)]
    · have hx : s[i]? = none := List.getElem?_eq_none (by omega)
      rw [rewr, hx]
      rw [go_head M l_truchmanref02_rewrite_0.eq_1]
      simp (maxSteps := 3000000) (maxDischargeDepth := 6) +contextual -implicitDefEqProofs only [amA M, amB, ↓slc_true, ↓slc_false, ↓slc_not, ↓fget_at, Nat.reduceBEq, Nat.reduceAdd, env, fargs, q_truchmanref02_rewrite, h]
theorem run_rrewrite (hN : NamesE E) (hR : RSpE E) {l : Lex} {n0 : Nat} (hl : l.ok n0) (hv : l.vowels.all isLo = true) {x : Spell} (hx0 : x.ok n0) (h0 : x.frm ≠ []) (ht : x.to.length ≤ 6) (hfr : x.frm.length ≤ 6) (hri : x.right.length ≤ 6) {s : Str} (hs : s.length ≤ 1000000) (H : List AObj) :
    M.run f_truchmanref02_rewrite [.agg l.row, .agg x.row, .str s] H = some (.ret (.tuple [.str (rewrF l.vowels x s), .bool (decide (((rewrF l.vowels x s).length : Int) ≤ 512))]), H) := by
  rw [run_c M hR.truchmanref02_rewrite rfl (c := c_truchmanref02_rewrite) rfl, c_truchmanref02_rewrite]
  have h1 := fun k He => rrw M hN hR hl hv hx0 h0 ht hfr hri hs (H := H ++ [.cells l.row t_api_Lexicon, .cells x.row t_api_Spell]) (H0 := H) (p := H.length) (q := H.length + 1) (T := t_api_Lexicon) (T2 := t_api_Spell) (by rw [hp_get0]; rfl) (by rw [hp_getk]; rfl) k (s.length + 1) 0 [] He (by omega) (by omega) (by simp)
  rw [← rewrF] at h1
  simp only [kv_cons, kv_nil, Int.ofNat_zero] at h1
  simp (maxSteps := 3000000) (maxDischargeDepth := 6) +contextual -implicitDefEqProofs only [amA M, amB, ↓slc_true, ↓slc_false, ↓slc_not, ↓fget_at, Nat.reduceBEq, Nat.reduceAdd, env, fargs, q_truchmanref02_rewrite, h1, cut_app, wk_tuple]

/-- What is known of a lexicon without error. -/
structure Valid (l : Lex) : Prop where
  vowels : l.vowels.all isLo = true
  spells : ∀ x ∈ l.spells.l, spellF x = 0
  short : Short l
theorem valid_of {l : Lex} (h : checkF l = 0) : Valid l := by
  unfold checkF at h
  simp only [errI1, errI0] at h
  rw [vowF_eq, ofF_nil] at h
  cases hv : l.vowels.all isLo with
  | false => rw [hv] at h; simp [sel] at h
  | true =>
    rw [hv] at h
    cases hi : incV l.vowels with
    | false => rw [hi] at h; simp [sel] at h
    | true =>
      rw [hi] at h
      simp only [sel, beq_self_eq_true, Bool.not_true] at h
      cases h1 : check1 l == 0 with
      | false => rw [h1] at h; simp only [Bool.not_false] at h; rw [h] at h1; simp at h1
      | true =>
        rw [h1] at h; simp only [Bool.not_true] at h
        cases h2 : check2 l == 0 with
        | false => rw [h2] at h; simp only [Bool.not_false] at h; rw [h] at h2; simp at h2
        | true =>
          rw [h2] at h; simp only [Bool.not_true] at h
          cases h3 : check3 l == 0 with
          | false => rw [h3] at h; simp only [Bool.not_false] at h; rw [h] at h3; simp at h3
          | true =>
            rw [h3] at h; simp only [Bool.not_true] at h
            cases h4 : check4 l == 0 with
            | false => rw [h4] at h; simp only [Bool.not_false] at h; rw [h] at h4; simp at h4
            | true =>
              refine ⟨hv, fun x hx => ?_, short_of (eq_of_beq h2)⟩
              obtain ⟨k, hk⟩ := List.getElem?_of_mem hx
              exact (each_zero (eq_of_beq h4)).2 k x hk
theorem spell_ok {x : Spell} (h : spellF x = 0) : x.frm ≠ [] ∧ x.to.length ≤ 6 ∧ x.frm.length ≤ 6 ∧ x.right.length ≤ 6 ∧ x.left.length ≤ 6 := by
  rw [spell_eq] at h
  cases c1 : (x.frm == [] || (!ofF [43] x.frm || (!ofF [43] x.to || (!ofF [43, 35, 86, 67] x.left || !ofF [43, 35, 86, 67] x.right)))) with
  | true => rw [c1] at h; simp [sel] at h
  | false =>
    rw [c1] at h
    cases c2 : (decide ((6 : Int) < (x.frm.length : Int)) || (decide ((6 : Int) < (x.to.length : Int)) || (decide ((6 : Int) < (x.left.length : Int)) || decide ((6 : Int) < (x.right.length : Int))))) with
    | true => rw [c2] at h; simp [sel] at h
    | false =>
      simp at c1 c2
      exact ⟨c1.1, by omega, by omega, by omega, by omega⟩

/-! Spell -/
def spellAll (l : Lex) (r : Int) (s : Str) : Str × Int :=
  sel (!(checkF l == 0)) ([], checkF l) (sel (decide (r < 0) || decide ((l.spells.l.length : Int) ≤ r)) ([], 7) (sel (!s.all isSym) ([], 1) (sel (decide ((512 : Int) < (s.length : Int))) ([], 3)
    (match l.spells.l[r.toNat]? with
      | none => ([], 7)
      | some x => sel (!decide (((rewrF l.vowels x s).length : Int) ≤ 512)) ([], 3) (rewrF l.vowels x s, 0)))))
theorem ias_int {α : Type} {row : α → List AV} {l : List α} {tag : Tag} {sz : Nat} {k : IntKind} {r : Int} (h0 : 0 ≤ r) (h : r.toNat < l.length) : rias sz (.slice tag sz (l.map row)) (.int k r) = some (.vptr sz (l.map row) r.toNat 0) := by
  have := ias_row (row := row) (tag := tag) (sz := sz) (k := k) h
  rwa [Int.toNat_of_nonneg h0] at this
theorem run_Spell (hN : NamesE E) (hE : ChkE E) (hS : SpE E) (hX : ExtE M) (hB : BldE E) {l : Lex} {n : Nat} (hl : l.ok n) (r : Int) {s : Str} (hs : s.length ≤ maxL) {H : List AObj} (hn : n ≤ H.length) :
    M.run f_morph_Spell [.agg l.row, .int .i64 r, .str s] H = some (.ret (.tuple [.str (spellAll l r s).1, .int .u8 (spellAll l r s).2]), H) := by
  rw [run_c M hS.morph_Spell rfl (c := c_morph_Spell) rfl, c_morph_Spell]
  cases hk : checkF l == 0 with
  | false =>
    simp (maxSteps := 3000000) (maxDischargeDepth := 6) +contextual -implicitDefEqProofs only [amA M, amB, ↓slc_true, ↓slc_false, ↓slc_not, ↓fget_at, Nat.reduceBEq, Nat.reduceAdd, env, fargs, q_morph_Spell, amG, AV.cell, Nat.reduceMul, Nat.reduceLeDiff, run_Check M hN hE hl, hn, hk, qLex, spellAll, wk_tuple]
  | true =>
    have hV := valid_of (eq_of_beq hk)
    cases hr : (decide (r < 0) || decide ((l.spells.l.length : Int) ≤ r)) with
    | true =>
      have hr2 : (decide (r < 0) || decide ((l.spells.l.length : Int) ≤ r)) = true := hr
      cases hr3 : decide (r < 0) with
      | true =>
        simp (maxSteps := 3000000) (maxDischargeDepth := 6) +contextual -implicitDefEqProofs only [amA M, amB, ↓slc_true, ↓slc_false, ↓slc_not, ↓fget_at, Nat.reduceBEq, Nat.reduceAdd, env, fargs, q_morph_Spell, amG, AV.cell, Nat.reduceMul, Nat.reduceLeDiff, run_Check M hN hE hl, hn, hk, hr3, qLex, spellAll, wk_tuple]
      | false =>
        rw [hr3, Bool.false_or] at hr2
        simp (maxSteps := 3000000) (maxDischargeDepth := 6) +contextual -implicitDefEqProofs only [amA M, amB, ↓slc_true, ↓slc_false, ↓slc_not, ↓fget_at, Nat.reduceBEq, Nat.reduceAdd, env, fargs, q_morph_Spell, amG, AV.cell, Nat.reduceMul, Nat.reduceLeDiff, run_Check M hN hE hl, hn, hk, hr3, hr2, qLex, spellAll, wk_tuple]
    | false =>
      obtain ⟨hr1, hr2⟩ := Bool.or_eq_false_iff.1 hr
      have hr0 : 0 ≤ r := by have := of_decide_eq_false hr1; omega
      have hrl : r.toNat < l.spells.l.length := by have := of_decide_eq_false hr2; omega
      have hx : l.spells.l[r.toNat]? = some l.spells.l[r.toNat] := List.getElem?_eq_getElem hrl
      have hm : l.spells.l[r.toNat] ∈ l.spells.l := List.getElem_mem hrl
      obtain ⟨p1, p2, p3, p4, p5⟩ := spell_ok (hV.spells _ hm)
      have hx0 := hl.spells.all _ hm
      cases ha : s.all isSym with
      | false =>
        simp (maxSteps := 3000000) (maxDischargeDepth := 6) +contextual -implicitDefEqProofs only [amA M, amB, ↓slc_true, ↓slc_false, ↓slc_not, ↓fget_at, Nat.reduceBEq, Nat.reduceAdd, env, fargs, q_morph_Spell, amG, AV.cell, Nat.reduceMul, Nat.reduceLeDiff, run_Check M hN hE hl, run_all M hN.all (g := f_morph_symbol) (fr := []) (cap := []) hs (fun c => run_symbol M hN hE c _), hn, hk, hr1, hr2, ha, qLex, spellAll, wk_tuple]
      | true =>
        cases hd : decide ((512 : Int) < (s.length : Int)) with
        | true =>
          simp (maxSteps := 3000000) (maxDischargeDepth := 6) +contextual -implicitDefEqProofs only [amA M, amB, ↓slc_true, ↓slc_false, ↓slc_not, ↓fget_at, Nat.reduceBEq, Nat.reduceAdd, env, fargs, q_morph_Spell, amG, AV.cell, Nat.reduceMul, Nat.reduceLeDiff, run_Check M hN hE hl, run_all M hN.all (g := f_morph_symbol) (fr := []) (cap := []) hs (fun c => run_symbol M hN hE c _), hn, hk, hr1, hr2, ha, hd, qLex, spellAll, wk_tuple]
        | false =>
          have hs5 : s.length ≤ 1000000 := by have := of_decide_eq_false hd; omega
          cases hd2 : decide (((rewrF l.vowels l.spells.l[r.toNat] s).length : Int) ≤ 512) with
          | true =>
            simp (maxSteps := 3000000) (maxDischargeDepth := 6) +contextual -implicitDefEqProofs only [amA M, amB, ↓slc_true, ↓slc_false, ↓slc_not, ↓fget_at, Nat.reduceBEq, Nat.reduceAdd, env, fargs, q_morph_Spell, amG, AV.cell, Nat.reduceMul, Nat.reduceLeDiff, run_Check M hN hE hl, run_all M hN.all (g := f_morph_symbol) (fr := []) (cap := []) hs (fun c => run_symbol M hN hE c _), run_spell M hN hS hX hB hx0 p1 p2 p3 p4 hs5, hn, hk, hr1, hr2, ha, hd, hd2, hx, qLex, qSpell, ias_int hr0 hrl, spellAll, wk_tuple]
          | false =>
            simp (maxSteps := 3000000) (maxDischargeDepth := 6) +contextual -implicitDefEqProofs only [amA M, amB, ↓slc_true, ↓slc_false, ↓slc_not, ↓fget_at, Nat.reduceBEq, Nat.reduceAdd, env, fargs, q_morph_Spell, amG, AV.cell, Nat.reduceMul, Nat.reduceLeDiff, run_Check M hN hE hl, run_all M hN.all (g := f_morph_symbol) (fr := []) (cap := []) hs (fun c => run_symbol M hN hE c _), run_spell M hN hS hX hB hx0 p1 p2 p3 p4 hs5, hn, hk, hr1, hr2, ha, hd, hd2, hx, qLex, qSpell, ias_int hr0 hrl, spellAll, wk_tuple]
theorem run_rSpell (hN : NamesE E) (hR : RefE E) (hS : RSpE E) {l : Lex} {n : Nat} (hl : l.ok n) (r : Int) {s : Str} (hs : s.length ≤ maxL) {H : List AObj} (hn : n ≤ H.length) :
    M.run f_truchmanref02_Spell [.agg l.row, .int .i64 r, .str s] H = some (.ret (.tuple [.str (spellAll l r s).1, .int .u8 (spellAll l r s).2]), H) := by
  rw [run_c M hS.truchmanref02_Spell rfl (c := c_truchmanref02_Spell) rfl, c_truchmanref02_Spell]
  cases hk : checkF l == 0 with
  | false =>
    simp (maxSteps := 3000000) (maxDischargeDepth := 6) +contextual -implicitDefEqProofs only [amA M, amB, ↓slc_true, ↓slc_false, ↓slc_not, ↓fget_at, Nat.reduceBEq, Nat.reduceAdd, env, fargs, q_truchmanref02_Spell, amG, AV.cell, Nat.reduceMul, Nat.reduceLeDiff, run_rCheck M hN hR hl, hn, hk, qLex, spellAll, wk_tuple]
  | true =>
    have hV := valid_of (eq_of_beq hk)
    cases hr : (decide (r < 0) || decide ((l.spells.l.length : Int) ≤ r)) with
    | true =>
      have hr2 : (decide (r < 0) || decide ((l.spells.l.length : Int) ≤ r)) = true := hr
      cases hr3 : decide (r < 0) with
      | true =>
        simp (maxSteps := 3000000) (maxDischargeDepth := 6) +contextual -implicitDefEqProofs only [amA M, amB, ↓slc_true, ↓slc_false, ↓slc_not, ↓fget_at, Nat.reduceBEq, Nat.reduceAdd, env, fargs, q_truchmanref02_Spell, amG, AV.cell, Nat.reduceMul, Nat.reduceLeDiff, run_rCheck M hN hR hl, hn, hk, hr3, qLex, spellAll, wk_tuple]
      | false =>
        rw [hr3, Bool.false_or] at hr2
        simp (maxSteps := 3000000) (maxDischargeDepth := 6) +contextual -implicitDefEqProofs only [amA M, amB, ↓slc_true, ↓slc_false, ↓slc_not, ↓fget_at, Nat.reduceBEq, Nat.reduceAdd, env, fargs, q_truchmanref02_Spell, amG, AV.cell, Nat.reduceMul, Nat.reduceLeDiff, run_rCheck M hN hR hl, hn, hk, hr3, hr2, qLex, spellAll, wk_tuple]
    | false =>
      obtain ⟨hr1, hr2⟩ := Bool.or_eq_false_iff.1 hr
      have hr0 : 0 ≤ r := by have := of_decide_eq_false hr1; omega
      have hrl : r.toNat < l.spells.l.length := by have := of_decide_eq_false hr2; omega
      have hx : l.spells.l[r.toNat]? = some l.spells.l[r.toNat] := List.getElem?_eq_getElem hrl
      have hm : l.spells.l[r.toNat] ∈ l.spells.l := List.getElem_mem hrl
      obtain ⟨p1, p2, p3, p4, p5⟩ := spell_ok (hV.spells _ hm)
      have hx0 := hl.spells.all _ hm
      cases ha : s.all isSym with
      | false =>
        simp (maxSteps := 3000000) (maxDischargeDepth := 6) +contextual -implicitDefEqProofs only [amA M, amB, ↓slc_true, ↓slc_false, ↓slc_not, ↓fget_at, Nat.reduceBEq, Nat.reduceAdd, env, fargs, q_truchmanref02_Spell, amG, AV.cell, Nat.reduceMul, Nat.reduceLeDiff, run_rCheck M hN hR hl, run_of M hN hs (more := [43]) (by simp [maxL]), of_sym, hn, hk, hr1, hr2, ha, qLex, spellAll, wk_tuple]
      | true =>
        cases hd : decide ((512 : Int) < (s.length : Int)) with
        | true =>
          simp (maxSteps := 3000000) (maxDischargeDepth := 6) +contextual -implicitDefEqProofs only [amA M, amB, ↓slc_true, ↓slc_false, ↓slc_not, ↓fget_at, Nat.reduceBEq, Nat.reduceAdd, env, fargs, q_truchmanref02_Spell, amG, AV.cell, Nat.reduceMul, Nat.reduceLeDiff, run_rCheck M hN hR hl, run_of M hN hs (more := [43]) (by simp [maxL]), of_sym, hn, hk, hr1, hr2, ha, hd, qLex, spellAll, wk_tuple]
        | false =>
          have hs5 : s.length ≤ 1000000 := by have := of_decide_eq_false hd; omega
          cases hd2 : decide (((rewrF l.vowels l.spells.l[r.toNat] s).length : Int) ≤ 512) with
          | true =>
            simp (maxSteps := 3000000) (maxDischargeDepth := 6) +contextual -implicitDefEqProofs only [amA M, amB, ↓slc_true, ↓slc_false, ↓slc_not, ↓fget_at, Nat.reduceBEq, Nat.reduceAdd, env, fargs, q_truchmanref02_Spell, amG, AV.cell, Nat.reduceMul, Nat.reduceLeDiff, run_rCheck M hN hR hl, run_of M hN hs (more := [43]) (by simp [maxL]), of_sym, run_rrewrite M hN hS hl hV.vowels hx0 p1 p2 p3 p4 hs5, hn, hk, hr1, hr2, ha, hd, hd2, hx, qLex, qSpell, ias_int hr0 hrl, spellAll, wk_tuple]
          | false =>
            simp (maxSteps := 3000000) (maxDischargeDepth := 6) +contextual -implicitDefEqProofs only [amA M, amB, ↓slc_true, ↓slc_false, ↓slc_not, ↓fget_at, Nat.reduceBEq, Nat.reduceAdd, env, fargs, q_truchmanref02_Spell, amG, AV.cell, Nat.reduceMul, Nat.reduceLeDiff, run_rCheck M hN hR hl, run_of M hN hs (more := [43]) (by simp [maxL]), of_sym, run_rrewrite M hN hS hl hV.vowels hx0 p1 p2 p3 p4 hs5, hn, hk, hr1, hr2, ha, hd, hd2, hx, qLex, qSpell, ias_int hr0 hrl, spellAll, wk_tuple]

end Go.Am
end

section
set_option linter.unusedSimpArgs false
set_option linter.unusedVariables false
set_option maxRecDepth 100000
set_option maxHeartbeats 4000000
namespace Go.Am
open Go.RowKit
attribute [local congr] dsel_congr sel_c1 slc_cong gsel_congr go_congr aft_congr aftD_congr condR_congr backR_congr inR_congr at2_congr
variable {E : REnv} (M : Mach cdec E)

theorem run_MorphSpells (hN : NamesE E) (hE : ChkE E) (hR : RefE E) (hg : GreatE E) (hS : SpE E) (hX : ExtE M) (hB : BldE E) (hRS : RSpE E) (h : E.fn f_truchmanlaw02_MorphSpells = some a_truchmanlaw02_MorphSpells)
    {l : Lex} {n : Nat} (hl : l.ok n) (r : Int) {s : Str} (hs : s.length ≤ maxL) {H : List AObj} (hn : n ≤ H.length) (hlv : ∀ H, M.run f_truchmanlaw02_lives [] H = some (.ret (.bool true), H)) :
    M.run f_truchmanlaw02_MorphSpells [.agg l.row, .int .i64 r, .str s] H = some (.ret (.bool true), H) := by
  rw [run_c M h rfl (c := c_truchmanlaw02_MorphSpells) rfl, c_truchmanlaw02_MorphSpells]
  simp (maxSteps := 3000000) (maxDischargeDepth := 6) +contextual -implicitDefEqProofs only [amA M, amB, ↓slc_true, ↓slc_false, ↓slc_not, ↓fget_at, Nat.reduceBEq, Nat.reduceAdd, env, fargs, q_truchmanlaw02_MorphSpells, amG, AV.cell, Nat.reduceMul, Nat.reduceLeDiff, hlv, run_Great M hg hl, run_Spell M hN hE hS hX hB hl r hs, run_rSpell M hN hR hRS hl r hs, hn, qLex, beq_self_eq_true, cut_app]

end Go.Am
end

section
set_option maxRecDepth 100000
set_option linter.unusedVariables false
namespace Go.Am
open Go.RowKit Go.ChangeShapes Go.WideShapes

structure TypesOk (P : Program) : Prop where
  u_string : P.underlying t_string = some .string
  c_string : P.cellsOf t_string = 1
  f_Feat : fieldsOf P t_api_Feat = some [(0, t_string), (1, t_string)]
  c_Feat : P.cellsOf t_api_Feat = 2
  u_sl_string : P.underlying t_sl_string = some (.slice t_string)
  c_sl_string : P.cellsOf t_sl_string = 1
  f_Trait : fieldsOf P t_api_Trait = some [(0, t_string), (1, t_sl_string)]
  c_Trait : P.cellsOf t_api_Trait = 2
  u_sl_Feat : P.underlying t_sl_api_Feat = some (.slice t_api_Feat)
  c_sl_Feat : P.cellsOf t_sl_api_Feat = 1
  u_int : P.underlying t_int = some (.int .i64)
  c_int : P.cellsOf t_int = 1
  f_Slot : fieldsOf P t_api_Slot = some [(0, t_int), (1, t_string), (2, t_string), (3, t_sl_api_Feat)]
  c_Slot : P.cellsOf t_api_Slot = 4
  u_sl_Slot : P.underlying t_sl_api_Slot = some (.slice t_api_Slot)
  c_sl_Slot : P.cellsOf t_sl_api_Slot = 1
  f_Class : fieldsOf P t_api_Class = some [(0, t_string), (1, t_sl_api_Slot)]
  c_Class : P.cellsOf t_api_Class = 2
  f_Irreg : fieldsOf P t_api_Irregular = some [(0, t_int), (1, t_string)]
  c_Irreg : P.cellsOf t_api_Irregular = 2
  u_sl_Irreg : P.underlying t_sl_api_Irregular = some (.slice t_api_Irregular)
  c_sl_Irreg : P.cellsOf t_sl_api_Irregular = 1
  f_Entry : fieldsOf P t_api_Entry = some [(0, t_string), (1, t_string), (2, t_sl_api_Feat), (3, t_sl_api_Irregular)]
  c_Entry : P.cellsOf t_api_Entry = 4
  f_Spell : fieldsOf P t_api_Spell = some [(0, t_string), (1, t_string), (2, t_string), (3, t_string)]
  c_Spell : P.cellsOf t_api_Spell = 4
  f_Link : fieldsOf P t_api_Link = some [(0, t_string), (1, t_string), (2, t_sl_api_Feat)]
  c_Link : P.cellsOf t_api_Link = 3
  u_sl_Trait : P.underlying t_sl_api_Trait = some (.slice t_api_Trait)
  c_sl_Trait : P.cellsOf t_sl_api_Trait = 1
  u_sl_Class : P.underlying t_sl_api_Class = some (.slice t_api_Class)
  c_sl_Class : P.cellsOf t_sl_api_Class = 1
  u_sl_Entry : P.underlying t_sl_api_Entry = some (.slice t_api_Entry)
  c_sl_Entry : P.cellsOf t_sl_api_Entry = 1
  u_sl_Spell : P.underlying t_sl_api_Spell = some (.slice t_api_Spell)
  c_sl_Spell : P.cellsOf t_sl_api_Spell = 1
  u_sl_Link : P.underlying t_sl_api_Link = some (.slice t_api_Link)
  c_sl_Link : P.cellsOf t_sl_api_Link = 1
  f_Lex : fieldsOf P t_api_Lexicon = some [(0, t_string), (1, t_sl_api_Trait), (2, t_sl_api_Class), (3, t_sl_api_Entry), (4, t_sl_api_Spell), (5, t_sl_api_Link)]
  c_Lex : P.cellsOf t_api_Lexicon = 6
section
variable {P : Program} {W : World} {G : Nat → Option (List AV)}
theorem open_Feat (h : TypesOk P) : Opens P W G t_api_Feat Feat.row (Feat.ok 0) :=
  opens_struct h.f_Feat h.c_Feat (opensF_cons (opens_str h.u_string) h.c_string (opensF_cons (opens_str h.u_string) h.c_string (opensF_nil _))) (fun a => ⟨a.1, a.2.1⟩) (fun a => rfl) (fun a ha => ⟨ha.1, ha.2.1⟩)
theorem open_sl_string (h : TypesOk P) : Opens P W G t_sl_string (fun s : Sl Str => [.slice s.tag 1 (s.l.map strRow)]) (fun s => s.ok 0 fun s => s.length ≤ maxL) :=
  opens_slice h.u_sl_string h.c_string (by decide) (fun _ => rfl) (opens_str h.u_string)
theorem open_Trait (h : TypesOk P) : Opens P W G t_api_Trait Trait.row (Trait.ok 0) :=
  opens_struct h.f_Trait h.c_Trait (opensF_cons (opens_str h.u_string) h.c_string (opensF_cons (open_sl_string h) h.c_sl_string (opensF_nil _))) (fun a => ⟨a.1, a.2.1⟩) (fun a => rfl) (fun a ha => ⟨ha.1, ha.2.1⟩)
theorem open_sl_Feat (h : TypesOk P) : Opens P W G t_sl_api_Feat (fun s : Sl Feat => [.slice s.tag 2 (s.l.map Feat.row)]) (fun s => s.ok 0 (Feat.ok 0)) :=
  opens_slice h.u_sl_Feat h.c_Feat (by decide) (fun _ => by simp only [qFeat]) (open_Feat h)
theorem open_Slot (h : TypesOk P) : Opens P W G t_api_Slot Slot.row (Slot.ok 0) :=
  opens_struct h.f_Slot h.c_Slot (opensF_cons (opens_int h.u_int) h.c_int (opensF_cons (opens_str h.u_string) h.c_string (opensF_cons (opens_str h.u_string) h.c_string (opensF_cons (open_sl_Feat h) h.c_sl_Feat (opensF_nil _))))) (fun a => ⟨a.1, a.2.1, a.2.2.1, a.2.2.2.1⟩) (fun a => rfl) (fun a ha => ⟨ha.1, ha.2.1, ha.2.2.1, ha.2.2.2.1⟩)
theorem open_sl_Slot (h : TypesOk P) : Opens P W G t_sl_api_Slot (fun s : Sl Slot => [.slice s.tag 4 (s.l.map Slot.row)]) (fun s => s.ok 0 (Slot.ok 0)) :=
  opens_slice h.u_sl_Slot h.c_Slot (by decide) (fun _ => by simp only [qSlot]) (open_Slot h)
theorem open_Class (h : TypesOk P) : Opens P W G t_api_Class Class.row (Class.ok 0) :=
  opens_struct h.f_Class h.c_Class (opensF_cons (opens_str h.u_string) h.c_string (opensF_cons (open_sl_Slot h) h.c_sl_Slot (opensF_nil _))) (fun a => ⟨a.1, a.2.1⟩) (fun a => rfl) (fun a ha => ⟨ha.1, ha.2.1⟩)
theorem open_Irreg (h : TypesOk P) : Opens P W G t_api_Irregular Irreg.row (Irreg.ok 0) :=
  opens_struct h.f_Irreg h.c_Irreg (opensF_cons (opens_int h.u_int) h.c_int (opensF_cons (opens_str h.u_string) h.c_string (opensF_nil _))) (fun a => ⟨a.1, a.2.1⟩) (fun a => rfl) (fun a ha => ⟨ha.1, ha.2.1⟩)
theorem open_sl_Irreg (h : TypesOk P) : Opens P W G t_sl_api_Irregular (fun s : Sl Irreg => [.slice s.tag 2 (s.l.map Irreg.row)]) (fun s => s.ok 0 (Irreg.ok 0)) :=
  opens_slice h.u_sl_Irreg h.c_Irreg (by decide) (fun _ => by simp only [qIrreg]) (open_Irreg h)
theorem open_Entry (h : TypesOk P) : Opens P W G t_api_Entry Entry.row (Entry.ok 0) :=
  opens_struct h.f_Entry h.c_Entry (opensF_cons (opens_str h.u_string) h.c_string (opensF_cons (opens_str h.u_string) h.c_string (opensF_cons (open_sl_Feat h) h.c_sl_Feat (opensF_cons (open_sl_Irreg h) h.c_sl_Irreg (opensF_nil _))))) (fun a => ⟨a.1, a.2.1, a.2.2.1, a.2.2.2.1⟩) (fun a => rfl) (fun a ha => ⟨ha.1, ha.2.1, ha.2.2.1, ha.2.2.2.1⟩)
theorem open_Spell (h : TypesOk P) : Opens P W G t_api_Spell Spell.row (Spell.ok 0) :=
  opens_struct h.f_Spell h.c_Spell (opensF_cons (opens_str h.u_string) h.c_string (opensF_cons (opens_str h.u_string) h.c_string (opensF_cons (opens_str h.u_string) h.c_string (opensF_cons (opens_str h.u_string) h.c_string (opensF_nil _))))) (fun a => ⟨a.1, a.2.1, a.2.2.1, a.2.2.2.1⟩) (fun a => rfl) (fun a ha => ⟨ha.1, ha.2.1, ha.2.2.1, ha.2.2.2.1⟩)
theorem open_Link (h : TypesOk P) : Opens P W G t_api_Link Link.row (Link.ok 0) :=
  opens_struct h.f_Link h.c_Link (opensF_cons (opens_str h.u_string) h.c_string (opensF_cons (opens_str h.u_string) h.c_string (opensF_cons (open_sl_Feat h) h.c_sl_Feat (opensF_nil _)))) (fun a => ⟨a.1, a.2.1, a.2.2.1⟩) (fun a => rfl) (fun a ha => ⟨ha.1, ha.2.1, ha.2.2.1⟩)
theorem open_sl_Trait (h : TypesOk P) : Opens P W G t_sl_api_Trait (fun s : Sl Trait => [.slice s.tag 2 (s.l.map Trait.row)]) (fun s => s.ok 0 (Trait.ok 0)) :=
  opens_slice h.u_sl_Trait h.c_Trait (by decide) (fun _ => by simp only [qTrait]) (open_Trait h)
theorem open_sl_Class (h : TypesOk P) : Opens P W G t_sl_api_Class (fun s : Sl Class => [.slice s.tag 2 (s.l.map Class.row)]) (fun s => s.ok 0 (Class.ok 0)) :=
  opens_slice h.u_sl_Class h.c_Class (by decide) (fun _ => by simp only [qClass]) (open_Class h)
theorem open_sl_Entry (h : TypesOk P) : Opens P W G t_sl_api_Entry (fun s : Sl Entry => [.slice s.tag 4 (s.l.map Entry.row)]) (fun s => s.ok 0 (Entry.ok 0)) :=
  opens_slice h.u_sl_Entry h.c_Entry (by decide) (fun _ => by simp only [qEntry]) (open_Entry h)
theorem open_sl_Spell (h : TypesOk P) : Opens P W G t_sl_api_Spell (fun s : Sl Spell => [.slice s.tag 4 (s.l.map Spell.row)]) (fun s => s.ok 0 (Spell.ok 0)) :=
  opens_slice h.u_sl_Spell h.c_Spell (by decide) (fun _ => by simp only [qSpell]) (open_Spell h)
theorem open_sl_Link (h : TypesOk P) : Opens P W G t_sl_api_Link (fun s : Sl Link => [.slice s.tag 3 (s.l.map Link.row)]) (fun s => s.ok 0 (Link.ok 0)) :=
  opens_slice h.u_sl_Link h.c_Link (by decide) (fun _ => by simp only [qLink]) (open_Link h)
theorem open_Lex (h : TypesOk P) : Opens P W G t_api_Lexicon Lex.row (Lex.ok 0) :=
  opens_struct h.f_Lex h.c_Lex (opensF_cons (opens_str h.u_string) h.c_string (opensF_cons (open_sl_Trait h) h.c_sl_Trait (opensF_cons (open_sl_Class h) h.c_sl_Class (opensF_cons (open_sl_Entry h) h.c_sl_Entry (opensF_cons (open_sl_Spell h) h.c_sl_Spell (opensF_cons (open_sl_Link h) h.c_sl_Link (opensF_nil _))))))) (fun a => ⟨a.1, a.2.1, a.2.2.1, a.2.2.2.1, a.2.2.2.2.1, a.2.2.2.2.2.1⟩) (fun a => rfl) (fun a ha => ⟨ha.1, ha.2.1, ha.2.2.1, ha.2.2.2.1, ha.2.2.2.2.1, ha.2.2.2.2.2.1⟩)
end
end Go.Am
end

section
set_option maxRecDepth 1000000
namespace Go.Am
open Go.RowKit Go.Proofs

def ntab (f : FuncId) : Option AFn := (bif Nat.blt f 65 then (bif Nat.blt f 33 then (bif Nat.blt f 17 then (bif Nat.blt f 11 then (bif Nat.blt f 6 then (bif Nat.blt f 4 then (bif Nat.beq f 3 then some a_truchmanlaw02_MorphSpells else none) else (bif Nat.beq f 4 then some a_truchmanlaw02_Great else none)) else (bif Nat.blt f 7 then (bif Nat.beq f 6 then some a_morph_Spell else none) else (bif Nat.blt f 8 then (bif Nat.beq f 7 then some a_truchmanref02_Spell else none) else (bif Nat.beq f 8 then some a_truchmanlaw02_Great_1 else none)))) else (bif Nat.blt f 14 then (bif Nat.blt f 12 then (bif Nat.beq f 11 then some a_morph_Check else none) else (bif Nat.blt f 13 then (bif Nat.beq f 12 then some a_morph_all else none) else (bif Nat.beq f 13 then some a_morph_symbol else none))) else (bif Nat.blt f 15 then (bif Nat.beq f 14 then some a_morph_language_spell else none) else (bif Nat.blt f 16 then (bif Nat.beq f 15 then some a_truchmanref02_Check else none) else (bif Nat.beq f 16 then some a_truchmanref02_of else none))))) else (bif Nat.blt f 27 then (bif Nat.blt f 24 then (bif Nat.blt f 22 then (bif Nat.beq f 17 then some a_truchmanref02_rewrite else none) else (bif Nat.blt f 23 then (bif Nat.beq f 22 then some a_morph_first else none) else (bif Nat.beq f 23 then some a_morph_checker_vowels else none))) else (bif Nat.blt f 25 then (bif Nat.beq f 24 then some a_morph_Check_1 else none) else (bif Nat.blt f 26 then (bif Nat.beq f 25 then some a_morph_each_api_Trait else none) else (bif Nat.beq f 26 then some a_morph_checker_trait else none)))) else (bif Nat.blt f 30 then (bif Nat.blt f 28 then (bif Nat.beq f 27 then some a_morph_Check_2 else none) else (bif Nat.blt f 29 then (bif Nat.beq f 28 then some a_morph_each_api_Class else none) else (bif Nat.beq f 29 then some a_morph_checker_class else none))) else (bif Nat.blt f 31 then (bif Nat.beq f 30 then some a_morph_Check_3 else none) else (bif Nat.blt f 32 then (bif Nat.beq f 31 then some a_morph_each_api_Entry else none) else (bif Nat.beq f 32 then some a_morph_checker_entry else none)))))) else (bif Nat.blt f 45 then (bif Nat.blt f 39 then (bif Nat.blt f 36 then (bif Nat.blt f 34 then (bif Nat.beq f 33 then some a_morph_Check_4 else none) else (bif Nat.blt f 35 then (bif Nat.beq f 34 then some a_morph_each_api_Spell else none) else (bif Nat.beq f 35 then some a_morph_checker_spell else none))) else (bif Nat.blt f 37 then (bif Nat.beq f 36 then some a_morph_Check_5 else none) else (bif Nat.blt f 38 then (bif Nat.beq f 37 then some a_morph_each_api_Link else none) else (bif Nat.beq f 38 then some a_morph_checker_link else none)))) else (bif Nat.blt f 42 then (bif Nat.blt f 40 then (bif Nat.beq f 39 then some a_morph_letter else none) else (bif Nat.blt f 41 then (bif Nat.beq f 40 then some a_strings_HasPrefix else none) else (bif Nat.beq f 41 then some a_morph_language_left else none))) else (bif Nat.blt f 43 then (bif Nat.beq f 42 then some a_morph_language_right else none) else (bif Nat.blt f 44 then (bif Nat.beq f 43 then some a_strings_Builder_WriteString else none) else (bif Nat.beq f 44 then some a_strings_Builder_WriteByte else none))))) else (bif Nat.blt f 51 then (bif Nat.blt f 48 then (bif Nat.blt f 46 then (bif Nat.beq f 45 then some a_strings_Builder_String else none) else (bif Nat.blt f 47 then (bif Nat.beq f 46 then some a_strings_Builder_Len else none) else (bif Nat.beq f 47 then some a_truchmanref02_traits else none))) else (bif Nat.blt f 49 then (bif Nat.beq f 48 then some a_truchmanref02_classes else none) else (bif Nat.blt f 50 then (bif Nat.beq f 49 then some a_truchmanref02_entries else none) else (bif Nat.beq f 50 then some a_truchmanref02_Class else none)))) else (bif Nat.blt f 62 then (bif Nat.blt f 52 then (bif Nat.beq f 51 then some a_truchmanref02_bundle else none) else (bif Nat.blt f 53 then (bif Nat.beq f 52 then some a_truchmanref02_Letter else none) else (bif Nat.beq f 53 then some a_truchmanref02_applies else none))) else (bif Nat.blt f 63 then (bif Nat.beq f 62 then some a_morph_Name else none) else (bif Nat.blt f 64 then (bif Nat.beq f 63 then some a_slices_ContainsFunc_api_Trait_api_Trait else none) else (bif Nat.beq f 64 then some a_morph_checker_trait_1 else none))))))) else (bif Nat.blt f 88 then (bif Nat.blt f 76 then (bif Nat.blt f 70 then (bif Nat.blt f 67 then (bif Nat.blt f 66 then (bif Nat.beq f 65 then some a_slices_Contains_string_string else none) else (bif Nat.beq f 66 then some a_slices_ContainsFunc_api_Class_api_Class else none)) else (bif Nat.blt f 68 then (bif Nat.beq f 67 then some a_morph_checker_class_1 else none) else (bif Nat.blt f 69 then (bif Nat.beq f 68 then some a_morph_each_api_Slot else none) else (bif Nat.beq f 69 then some a_morph_checker_class_2 else none)))) else (bif Nat.blt f 73 then (bif Nat.blt f 71 then (bif Nat.beq f 70 then some a_morph_short else none) else (bif Nat.blt f 72 then (bif Nat.beq f 71 then some a_morph_checker_bundle else none) else (bif Nat.beq f 72 then some a_morph_classOf else none))) else (bif Nat.blt f 74 then (bif Nat.beq f 73 then some a_morph_Plain else none) else (bif Nat.blt f 75 then (bif Nat.beq f 74 then some a_slices_ContainsFunc_api_Entry_api_Entry else none) else (bif Nat.beq f 75 then some a_morph_checker_entry_1 else none))))) else (bif Nat.blt f 82 then (bif Nat.blt f 79 then (bif Nat.blt f 77 then (bif Nat.beq f 76 then some a_slices_ContainsFunc_api_Slot_api_Slot else none) else (bif Nat.blt f 78 then (bif Nat.beq f 77 then some a_morph_checker_entry_2 else none) else (bif Nat.beq f 78 then some a_morph_clash else none))) else (bif Nat.blt f 80 then (bif Nat.beq f 79 then some a_slices_ContainsFunc_api_Irregular_api_Irregular else none) else (bif Nat.blt f 81 then (bif Nat.beq f 80 then some a_morph_checker_entry_3 else none) else (bif Nat.beq f 81 then some a_morph_around else none)))) else (bif Nat.blt f 85 then (bif Nat.blt f 83 then (bif Nat.beq f 82 then some a_internal_stringslite_HasPrefix else none) else (bif Nat.blt f 84 then (bif Nat.beq f 83 then some a_morph_language_match else none) else (bif Nat.beq f 84 then some a_strings_Builder_copyCheck else none))) else (bif Nat.blt f 86 then (bif Nat.beq f 85 then some a_truchmanref02_Name else none) else (bif Nat.blt f 87 then (bif Nat.beq f 86 then some a_truchmanref02_trait else none) else (bif Nat.beq f 87 then some a_truchmanref02_in else none)))))) else (bif Nat.blt f 116 then (bif Nat.blt f 110 then (bif Nat.blt f 107 then (bif Nat.blt f 89 then (bif Nat.beq f 88 then some a_truchmanref02_Plain else none) else (bif Nat.blt f 90 then (bif Nat.beq f 89 then some a_truchmanref02_Unify else none) else (bif Nat.beq f 90 then some a_truchmanref02_matches else none))) else (bif Nat.blt f 108 then (bif Nat.beq f 107 then some a_morph_Name_1 else none) else (bif Nat.blt f 109 then (bif Nat.beq f 108 then some a_morph_Name_2 else none) else (bif Nat.beq f 109 then some a_slices_IndexFunc_api_Trait_api_Trait else none)))) else (bif Nat.blt f 113 then (bif Nat.blt f 111 then (bif Nat.beq f 110 then some a_slices_Index_string_string else none) else (bif Nat.blt f 112 then (bif Nat.beq f 111 then some a_slices_IndexFunc_api_Class_api_Class else none) else (bif Nat.beq f 112 then some a_morph_each_api_Feat else none))) else (bif Nat.blt f 114 then (bif Nat.beq f 113 then some a_morph_checker_bundle_1 else none) else (bif Nat.blt f 115 then (bif Nat.beq f 114 then some a_morph_checker_bundle_1_1 else none) else (bif Nat.beq f 115 then some a_morph_classOf_1 else none))))) else (bif Nat.blt f 122 then (bif Nat.blt f 119 then (bif Nat.blt f 117 then (bif Nat.beq f 116 then some a_morph_Word else none) else (bif Nat.blt f 118 then (bif Nat.beq f 117 then some a_slices_IndexFunc_api_Entry_api_Entry else none) else (bif Nat.beq f 118 then some a_slices_IndexFunc_api_Slot_api_Slot else none))) else (bif Nat.blt f 120 then (bif Nat.beq f 119 then some a_slices_ContainsFunc_api_Feat_api_Feat else none) else (bif Nat.blt f 121 then (bif Nat.beq f 120 then some a_morph_clash_1 else none) else (bif Nat.beq f 121 then some a_morph_clash_1_1 else none)))) else (bif Nat.blt f 134 then (bif Nat.blt f 123 then (bif Nat.beq f 122 then some a_slices_IndexFunc_api_Irregular_api_Irregular else none) else (bif Nat.blt f 125 then (bif Nat.beq f 123 then some a_strings_IndexByte else none) else (bif Nat.beq f 125 then some a_truchmanref02_Word else none))) else (bif Nat.blt f 135 then (bif Nat.beq f 134 then some a_morph_Word_1 else none) else (bif Nat.blt f 136 then (bif Nat.beq f 135 then some a_slices_IndexFunc_api_Feat_api_Feat else none) else (bif Nat.beq f 136 then some a_internal_stringslite_IndexByte else none))))))))
theorem ntab_truchmanlaw02_MorphSpells : CompOk Tryz.prog G0 3 a_truchmanlaw02_MorphSpells := by unfold CompOk; kernel_rfl
theorem ntab_truchmanlaw02_Great : CompOk Tryz.prog G0 4 a_truchmanlaw02_Great := by unfold CompOk; kernel_rfl
theorem ntab_morph_Spell : CompOk Tryz.prog G0 6 a_morph_Spell := by unfold CompOk; kernel_rfl
theorem ntab_truchmanref02_Spell : CompOk Tryz.prog G0 7 a_truchmanref02_Spell := by unfold CompOk; kernel_rfl
theorem ntab_truchmanlaw02_Great_1 : CompOk Tryz.prog G0 8 a_truchmanlaw02_Great_1 := by unfold CompOk; kernel_rfl
theorem ntab_morph_Check : CompOk Tryz.prog G0 11 a_morph_Check := by unfold CompOk; kernel_rfl
theorem ntab_morph_all : CompOk Tryz.prog G0 12 a_morph_all := by unfold CompOk; kernel_rfl
theorem ntab_morph_symbol : CompOk Tryz.prog G0 13 a_morph_symbol := by unfold CompOk; kernel_rfl
theorem ntab_morph_language_spell : CompOk Tryz.prog G0 14 a_morph_language_spell := by unfold CompOk; kernel_rfl
theorem ntab_truchmanref02_Check : CompOk Tryz.prog G0 15 a_truchmanref02_Check := by unfold CompOk; kernel_rfl
theorem ntab_truchmanref02_of : CompOk Tryz.prog G0 16 a_truchmanref02_of := by unfold CompOk; kernel_rfl
theorem ntab_truchmanref02_rewrite : CompOk Tryz.prog G0 17 a_truchmanref02_rewrite := by unfold CompOk; kernel_rfl
theorem ntab_morph_first : CompOk Tryz.prog G0 22 a_morph_first := by unfold CompOk; kernel_rfl
theorem ntab_morph_checker_vowels : CompOk Tryz.prog G0 23 a_morph_checker_vowels := by unfold CompOk; kernel_rfl
theorem ntab_morph_Check_1 : CompOk Tryz.prog G0 24 a_morph_Check_1 := by unfold CompOk; kernel_rfl
theorem ntab_morph_each_api_Trait : CompOk Tryz.prog G0 25 a_morph_each_api_Trait := by unfold CompOk; kernel_rfl
theorem ntab_morph_checker_trait : CompOk Tryz.prog G0 26 a_morph_checker_trait := by unfold CompOk; kernel_rfl
theorem ntab_morph_Check_2 : CompOk Tryz.prog G0 27 a_morph_Check_2 := by unfold CompOk; kernel_rfl
theorem ntab_morph_each_api_Class : CompOk Tryz.prog G0 28 a_morph_each_api_Class := by unfold CompOk; kernel_rfl
theorem ntab_morph_checker_class : CompOk Tryz.prog G0 29 a_morph_checker_class := by unfold CompOk; kernel_rfl
theorem ntab_morph_Check_3 : CompOk Tryz.prog G0 30 a_morph_Check_3 := by unfold CompOk; kernel_rfl
theorem ntab_morph_each_api_Entry : CompOk Tryz.prog G0 31 a_morph_each_api_Entry := by unfold CompOk; kernel_rfl
theorem ntab_morph_checker_entry : CompOk Tryz.prog G0 32 a_morph_checker_entry := by unfold CompOk; kernel_rfl
theorem ntab_morph_Check_4 : CompOk Tryz.prog G0 33 a_morph_Check_4 := by unfold CompOk; kernel_rfl
theorem ntab_morph_each_api_Spell : CompOk Tryz.prog G0 34 a_morph_each_api_Spell := by unfold CompOk; kernel_rfl
theorem ntab_morph_checker_spell : CompOk Tryz.prog G0 35 a_morph_checker_spell := by unfold CompOk; kernel_rfl
theorem ntab_morph_Check_5 : CompOk Tryz.prog G0 36 a_morph_Check_5 := by unfold CompOk; kernel_rfl
theorem ntab_morph_each_api_Link : CompOk Tryz.prog G0 37 a_morph_each_api_Link := by unfold CompOk; kernel_rfl
theorem ntab_morph_checker_link : CompOk Tryz.prog G0 38 a_morph_checker_link := by unfold CompOk; kernel_rfl
theorem ntab_morph_letter : CompOk Tryz.prog G0 39 a_morph_letter := by unfold CompOk; kernel_rfl
theorem ntab_strings_HasPrefix : CompOk Tryz.prog G0 40 a_strings_HasPrefix := by unfold CompOk; kernel_rfl
theorem ntab_morph_language_left : CompOk Tryz.prog G0 41 a_morph_language_left := by unfold CompOk; kernel_rfl
theorem ntab_morph_language_right : CompOk Tryz.prog G0 42 a_morph_language_right := by unfold CompOk; kernel_rfl
theorem ntab_strings_Builder_WriteString : CompOk Tryz.prog G0 43 a_strings_Builder_WriteString := by unfold CompOk; kernel_rfl
theorem ntab_strings_Builder_WriteByte : CompOk Tryz.prog G0 44 a_strings_Builder_WriteByte := by unfold CompOk; kernel_rfl
theorem ntab_strings_Builder_String : CompOk Tryz.prog G0 45 a_strings_Builder_String := by unfold CompOk; kernel_rfl
theorem ntab_strings_Builder_Len : CompOk Tryz.prog G0 46 a_strings_Builder_Len := by unfold CompOk; kernel_rfl
theorem ntab_truchmanref02_traits : CompOk Tryz.prog G0 47 a_truchmanref02_traits := by unfold CompOk; kernel_rfl
theorem ntab_truchmanref02_classes : CompOk Tryz.prog G0 48 a_truchmanref02_classes := by unfold CompOk; kernel_rfl
theorem ntab_truchmanref02_entries : CompOk Tryz.prog G0 49 a_truchmanref02_entries := by unfold CompOk; kernel_rfl
theorem ntab_truchmanref02_Class : CompOk Tryz.prog G0 50 a_truchmanref02_Class := by unfold CompOk; kernel_rfl
theorem ntab_truchmanref02_bundle : CompOk Tryz.prog G0 51 a_truchmanref02_bundle := by unfold CompOk; kernel_rfl
theorem ntab_truchmanref02_Letter : CompOk Tryz.prog G0 52 a_truchmanref02_Letter := by unfold CompOk; kernel_rfl
theorem ntab_truchmanref02_applies : CompOk Tryz.prog G0 53 a_truchmanref02_applies := by unfold CompOk; kernel_rfl
theorem ntab_morph_Name : CompOk Tryz.prog G0 62 a_morph_Name := by unfold CompOk; kernel_rfl
theorem ntab_slices_ContainsFunc_api_Trait_api_Trait : CompOk Tryz.prog G0 63 a_slices_ContainsFunc_api_Trait_api_Trait := by unfold CompOk; kernel_rfl
theorem ntab_morph_checker_trait_1 : CompOk Tryz.prog G0 64 a_morph_checker_trait_1 := by unfold CompOk; kernel_rfl
theorem ntab_slices_Contains_string_string : CompOk Tryz.prog G0 65 a_slices_Contains_string_string := by unfold CompOk; kernel_rfl
theorem ntab_slices_ContainsFunc_api_Class_api_Class : CompOk Tryz.prog G0 66 a_slices_ContainsFunc_api_Class_api_Class := by unfold CompOk; kernel_rfl
theorem ntab_morph_checker_class_1 : CompOk Tryz.prog G0 67 a_morph_checker_class_1 := by unfold CompOk; kernel_rfl
theorem ntab_morph_each_api_Slot : CompOk Tryz.prog G0 68 a_morph_each_api_Slot := by unfold CompOk; kernel_rfl
theorem ntab_morph_checker_class_2 : CompOk Tryz.prog G0 69 a_morph_checker_class_2 := by unfold CompOk; kernel_rfl
theorem ntab_morph_short : CompOk Tryz.prog G0 70 a_morph_short := by unfold CompOk; kernel_rfl
theorem ntab_morph_checker_bundle : CompOk Tryz.prog G0 71 a_morph_checker_bundle := by unfold CompOk; kernel_rfl
theorem ntab_morph_classOf : CompOk Tryz.prog G0 72 a_morph_classOf := by unfold CompOk; kernel_rfl
theorem ntab_morph_Plain : CompOk Tryz.prog G0 73 a_morph_Plain := by unfold CompOk; kernel_rfl
theorem ntab_slices_ContainsFunc_api_Entry_api_Entry : CompOk Tryz.prog G0 74 a_slices_ContainsFunc_api_Entry_api_Entry := by unfold CompOk; kernel_rfl
theorem ntab_morph_checker_entry_1 : CompOk Tryz.prog G0 75 a_morph_checker_entry_1 := by unfold CompOk; kernel_rfl
theorem ntab_slices_ContainsFunc_api_Slot_api_Slot : CompOk Tryz.prog G0 76 a_slices_ContainsFunc_api_Slot_api_Slot := by unfold CompOk; kernel_rfl
theorem ntab_morph_checker_entry_2 : CompOk Tryz.prog G0 77 a_morph_checker_entry_2 := by unfold CompOk; kernel_rfl
theorem ntab_morph_clash : CompOk Tryz.prog G0 78 a_morph_clash := by unfold CompOk; kernel_rfl
theorem ntab_slices_ContainsFunc_api_Irregular_api_Irregular : CompOk Tryz.prog G0 79 a_slices_ContainsFunc_api_Irregular_api_Irregular := by unfold CompOk; kernel_rfl
theorem ntab_morph_checker_entry_3 : CompOk Tryz.prog G0 80 a_morph_checker_entry_3 := by unfold CompOk; kernel_rfl
theorem ntab_morph_around : CompOk Tryz.prog G0 81 a_morph_around := by unfold CompOk; kernel_rfl
theorem ntab_internal_stringslite_HasPrefix : CompOk Tryz.prog G0 82 a_internal_stringslite_HasPrefix := by unfold CompOk; kernel_rfl
theorem ntab_morph_language_match : CompOk Tryz.prog G0 83 a_morph_language_match := by unfold CompOk; kernel_rfl
theorem ntab_strings_Builder_copyCheck : CompOk Tryz.prog G0 84 a_strings_Builder_copyCheck := by unfold CompOk; kernel_rfl
theorem ntab_truchmanref02_Name : CompOk Tryz.prog G0 85 a_truchmanref02_Name := by unfold CompOk; kernel_rfl
theorem ntab_truchmanref02_trait : CompOk Tryz.prog G0 86 a_truchmanref02_trait := by unfold CompOk; kernel_rfl
theorem ntab_truchmanref02_in : CompOk Tryz.prog G0 87 a_truchmanref02_in := by unfold CompOk; kernel_rfl
theorem ntab_truchmanref02_Plain : CompOk Tryz.prog G0 88 a_truchmanref02_Plain := by unfold CompOk; kernel_rfl
theorem ntab_truchmanref02_Unify : CompOk Tryz.prog G0 89 a_truchmanref02_Unify := by unfold CompOk; kernel_rfl
theorem ntab_truchmanref02_matches : CompOk Tryz.prog G0 90 a_truchmanref02_matches := by unfold CompOk; kernel_rfl
theorem ntab_morph_Name_1 : CompOk Tryz.prog G0 107 a_morph_Name_1 := by unfold CompOk; kernel_rfl
theorem ntab_morph_Name_2 : CompOk Tryz.prog G0 108 a_morph_Name_2 := by unfold CompOk; kernel_rfl
theorem ntab_slices_IndexFunc_api_Trait_api_Trait : CompOk Tryz.prog G0 109 a_slices_IndexFunc_api_Trait_api_Trait := by unfold CompOk; kernel_rfl
theorem ntab_slices_Index_string_string : CompOk Tryz.prog G0 110 a_slices_Index_string_string := by unfold CompOk; kernel_rfl
theorem ntab_slices_IndexFunc_api_Class_api_Class : CompOk Tryz.prog G0 111 a_slices_IndexFunc_api_Class_api_Class := by unfold CompOk; kernel_rfl
theorem ntab_morph_each_api_Feat : CompOk Tryz.prog G0 112 a_morph_each_api_Feat := by unfold CompOk; kernel_rfl
theorem ntab_morph_checker_bundle_1 : CompOk Tryz.prog G0 113 a_morph_checker_bundle_1 := by unfold CompOk; kernel_rfl
theorem ntab_morph_checker_bundle_1_1 : CompOk Tryz.prog G0 114 a_morph_checker_bundle_1_1 := by unfold CompOk; kernel_rfl
theorem ntab_morph_classOf_1 : CompOk Tryz.prog G0 115 a_morph_classOf_1 := by unfold CompOk; kernel_rfl
theorem ntab_morph_Word : CompOk Tryz.prog G0 116 a_morph_Word := by unfold CompOk; kernel_rfl
theorem ntab_slices_IndexFunc_api_Entry_api_Entry : CompOk Tryz.prog G0 117 a_slices_IndexFunc_api_Entry_api_Entry := by unfold CompOk; kernel_rfl
theorem ntab_slices_IndexFunc_api_Slot_api_Slot : CompOk Tryz.prog G0 118 a_slices_IndexFunc_api_Slot_api_Slot := by unfold CompOk; kernel_rfl
theorem ntab_slices_ContainsFunc_api_Feat_api_Feat : CompOk Tryz.prog G0 119 a_slices_ContainsFunc_api_Feat_api_Feat := by unfold CompOk; kernel_rfl
theorem ntab_morph_clash_1 : CompOk Tryz.prog G0 120 a_morph_clash_1 := by unfold CompOk; kernel_rfl
theorem ntab_morph_clash_1_1 : CompOk Tryz.prog G0 121 a_morph_clash_1_1 := by unfold CompOk; kernel_rfl
theorem ntab_slices_IndexFunc_api_Irregular_api_Irregular : CompOk Tryz.prog G0 122 a_slices_IndexFunc_api_Irregular_api_Irregular := by unfold CompOk; kernel_rfl
theorem ntab_strings_IndexByte : CompOk Tryz.prog G0 123 a_strings_IndexByte := by unfold CompOk; kernel_rfl
theorem ntab_truchmanref02_Word : CompOk Tryz.prog G0 125 a_truchmanref02_Word := by unfold CompOk; kernel_rfl
theorem ntab_morph_Word_1 : CompOk Tryz.prog G0 134 a_morph_Word_1 := by unfold CompOk; kernel_rfl
theorem ntab_slices_IndexFunc_api_Feat_api_Feat : CompOk Tryz.prog G0 135 a_slices_IndexFunc_api_Feat_api_Feat := by unfold CompOk; kernel_rfl
theorem ntab_internal_stringslite_IndexByte : CompOk Tryz.prog G0 136 a_internal_stringslite_IndexByte := by unfold CompOk; kernel_rfl
theorem ntab_ok : ∀ f af, ntab f = some af → CompOk Tryz.prog G0 f af := fun f af h => by
  unfold ntab at h
  revert h
  exact (tab_node (tab_node (tab_node (tab_node (tab_node (tab_node (tab_leaf (C := _) ntab_truchmanlaw02_MorphSpells) (tab_leaf (C := _) ntab_truchmanlaw02_Great)) (tab_node (tab_leaf (C := _) ntab_morph_Spell) (tab_node (tab_leaf (C := _) ntab_truchmanref02_Spell) (tab_leaf (C := _) ntab_truchmanlaw02_Great_1)))) (tab_node (tab_node (tab_leaf (C := _) ntab_morph_Check) (tab_node (tab_leaf (C := _) ntab_morph_all) (tab_leaf (C := _) ntab_morph_symbol))) (tab_node (tab_leaf (C := _) ntab_morph_language_spell) (tab_node (tab_leaf (C := _) ntab_truchmanref02_Check) (tab_leaf (C := _) ntab_truchmanref02_of))))) (tab_node (tab_node (tab_node (tab_leaf (C := _) ntab_truchmanref02_rewrite) (tab_node (tab_leaf (C := _) ntab_morph_first) (tab_leaf (C := _) ntab_morph_checker_vowels))) (tab_node (tab_leaf (C := _) ntab_morph_Check_1) (tab_node (tab_leaf (C := _) ntab_morph_each_api_Trait) (tab_leaf (C := _) ntab_morph_checker_trait)))) (tab_node (tab_node (tab_leaf (C := _) ntab_morph_Check_2) (tab_node (tab_leaf (C := _) ntab_morph_each_api_Class) (tab_leaf (C := _) ntab_morph_checker_class))) (tab_node (tab_leaf (C := _) ntab_morph_Check_3) (tab_node (tab_leaf (C := _) ntab_morph_each_api_Entry) (tab_leaf (C := _) ntab_morph_checker_entry)))))) (tab_node (tab_node (tab_node (tab_node (tab_leaf (C := _) ntab_morph_Check_4) (tab_node (tab_leaf (C := _) ntab_morph_each_api_Spell) (tab_leaf (C := _) ntab_morph_checker_spell))) (tab_node (tab_leaf (C := _) ntab_morph_Check_5) (tab_node (tab_leaf (C := _) ntab_morph_each_api_Link) (tab_leaf (C := _) ntab_morph_checker_link)))) (tab_node (tab_node (tab_leaf (C := _) ntab_morph_letter) (tab_node (tab_leaf (C := _) ntab_strings_HasPrefix) (tab_leaf (C := _) ntab_morph_language_left))) (tab_node (tab_leaf (C := _) ntab_morph_language_right) (tab_node (tab_leaf (C := _) ntab_strings_Builder_WriteString) (tab_leaf (C := _) ntab_strings_Builder_WriteByte))))) (tab_node (tab_node (tab_node (tab_leaf (C := _) ntab_strings_Builder_String) (tab_node (tab_leaf (C := _) ntab_strings_Builder_Len) (tab_leaf (C := _) ntab_truchmanref02_traits))) (tab_node (tab_leaf (C := _) ntab_truchmanref02_classes) (tab_node (tab_leaf (C := _) ntab_truchmanref02_entries) (tab_leaf (C := _) ntab_truchmanref02_Class)))) (tab_node (tab_node (tab_leaf (C := _) ntab_truchmanref02_bundle) (tab_node (tab_leaf (C := _) ntab_truchmanref02_Letter) (tab_leaf (C := _) ntab_truchmanref02_applies))) (tab_node (tab_leaf (C := _) ntab_morph_Name) (tab_node (tab_leaf (C := _) ntab_slices_ContainsFunc_api_Trait_api_Trait) (tab_leaf (C := _) ntab_morph_checker_trait_1))))))) (tab_node (tab_node (tab_node (tab_node (tab_node (tab_leaf (C := _) ntab_slices_Contains_string_string) (tab_leaf (C := _) ntab_slices_ContainsFunc_api_Class_api_Class)) (tab_node (tab_leaf (C := _) ntab_morph_checker_class_1) (tab_node (tab_leaf (C := _) ntab_morph_each_api_Slot) (tab_leaf (C := _) ntab_morph_checker_class_2)))) (tab_node (tab_node (tab_leaf (C := _) ntab_morph_short) (tab_node (tab_leaf (C := _) ntab_morph_checker_bundle) (tab_leaf (C := _) ntab_morph_classOf))) (tab_node (tab_leaf (C := _) ntab_morph_Plain) (tab_node (tab_leaf (C := _) ntab_slices_ContainsFunc_api_Entry_api_Entry) (tab_leaf (C := _) ntab_morph_checker_entry_1))))) (tab_node (tab_node (tab_node (tab_leaf (C := _) ntab_slices_ContainsFunc_api_Slot_api_Slot) (tab_node (tab_leaf (C := _) ntab_morph_checker_entry_2) (tab_leaf (C := _) ntab_morph_clash))) (tab_node (tab_leaf (C := _) ntab_slices_ContainsFunc_api_Irregular_api_Irregular) (tab_node (tab_leaf (C := _) ntab_morph_checker_entry_3) (tab_leaf (C := _) ntab_morph_around)))) (tab_node (tab_node (tab_leaf (C := _) ntab_internal_stringslite_HasPrefix) (tab_node (tab_leaf (C := _) ntab_morph_language_match) (tab_leaf (C := _) ntab_strings_Builder_copyCheck))) (tab_node (tab_leaf (C := _) ntab_truchmanref02_Name) (tab_node (tab_leaf (C := _) ntab_truchmanref02_trait) (tab_leaf (C := _) ntab_truchmanref02_in)))))) (tab_node (tab_node (tab_node (tab_node (tab_leaf (C := _) ntab_truchmanref02_Plain) (tab_node (tab_leaf (C := _) ntab_truchmanref02_Unify) (tab_leaf (C := _) ntab_truchmanref02_matches))) (tab_node (tab_leaf (C := _) ntab_morph_Name_1) (tab_node (tab_leaf (C := _) ntab_morph_Name_2) (tab_leaf (C := _) ntab_slices_IndexFunc_api_Trait_api_Trait)))) (tab_node (tab_node (tab_leaf (C := _) ntab_slices_Index_string_string) (tab_node (tab_leaf (C := _) ntab_slices_IndexFunc_api_Class_api_Class) (tab_leaf (C := _) ntab_morph_each_api_Feat))) (tab_node (tab_leaf (C := _) ntab_morph_checker_bundle_1) (tab_node (tab_leaf (C := _) ntab_morph_checker_bundle_1_1) (tab_leaf (C := _) ntab_morph_classOf_1))))) (tab_node (tab_node (tab_node (tab_leaf (C := _) ntab_morph_Word) (tab_node (tab_leaf (C := _) ntab_slices_IndexFunc_api_Entry_api_Entry) (tab_leaf (C := _) ntab_slices_IndexFunc_api_Slot_api_Slot))) (tab_node (tab_leaf (C := _) ntab_slices_ContainsFunc_api_Feat_api_Feat) (tab_node (tab_leaf (C := _) ntab_morph_clash_1) (tab_leaf (C := _) ntab_morph_clash_1_1)))) (tab_node (tab_node (tab_leaf (C := _) ntab_slices_IndexFunc_api_Irregular_api_Irregular) (tab_node (tab_leaf (C := _) ntab_strings_IndexByte) (tab_leaf (C := _) ntab_truchmanref02_Word))) (tab_node (tab_leaf (C := _) ntab_morph_Word_1) (tab_node (tab_leaf (C := _) ntab_slices_IndexFunc_api_Feat_api_Feat) (tab_leaf (C := _) ntab_internal_stringslite_IndexByte))))))))

/-- That some word lives in the example's lexicon: run alone. -/
def norc (f : FuncId) (args : List AV) (H : List AObj) : Option Out :=
  match args with
  | [] => bif Nat.beq f f_truchmanlaw02_lives then some (.ret (.bool true), H) else none
  | _ => xorc f args H
theorem norc_ok {f : FuncId} {args : List AV} {H H' : List AObj} {r : ARes} (h : norc f args H = some (r, H')) : ACalls Tryz.prog G0 f args H fun r2 H2 => r2 = r ∧ H2 = H' := by
  unfold norc at h
  split at h
  · cases h1 : Nat.beq f f_truchmanlaw02_lives with
    | true => rw [h1] at h; cases h; rw [Nat.eq_of_beq_eq_true h1]; exact lives_ok H
    | false => rw [h1] at h; cases h
  · exact xorc_ok h

noncomputable def EN : REnv := { P := Tryz.prog, G := G0, fn := ntab, orc := norc, dfn := fun _ => none }
theorem EN_ok : EN.Ok := ⟨x_mixed, fun f af h => ntab_ok f af h, (fun _ _ _ h => by cases h), (fun _ _ _ _ _ h => by cases h), fun _ _ _ _ _ h => norc_ok h⟩

end Go.Am
end

