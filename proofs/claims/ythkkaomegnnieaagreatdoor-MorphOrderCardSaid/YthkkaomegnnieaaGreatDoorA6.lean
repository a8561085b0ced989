import Derived.Test.YthkkaomegnnieaaGreatDoorA5
import Derived.Shelf.SlSortCmp.WholeK
import Derived.Lib.RowBridge
import Derived.Test.YthkkaomegnnieaaGreatDoorChecked
import Derived.Shelf.SlSortCmp.NoneTotal
import Derived.Laws.Externs
import Derived.KernelRfl
/-
  Part 6 of the tool: an abstract machine over the model, proved sound, and what it says of the functions that the law reaches. Condition: none but those that each theorem names.
-/
set_option linter.unusedVariables false
set_option linter.unusedSimpArgs false
section
set_option linter.unusedSimpArgs false
set_option linter.unusedVariables false
set_option maxRecDepth 100000
set_option maxHeartbeats 4000000
namespace Go.Am
open Go.RowKit
attribute [local congr] dsel_congr sel_c1 slc_cong gsel_congr go_congr aft_congr aftD_congr condR_congr backR_congr inR_congr at2_congr
variable {E : REnv} (M : Mach cdec E)

theorem idx_lt {α : Type} {p : α → Bool} : ∀ {l : List α} {i : Nat} {x : α}, l[i]? = some x → p x = true → ∀ s : Nat, decide (idxI p s l < ((s + i : Nat) : Int)) = (l.take i).any p
  | [], _, _, h, _, _ => by simp at h
  | y :: l, 0, x, h, hp, s => by
    obtain rfl : y = x := by simpa using h
    simp only [idxI, hp, sel, List.take_zero, List.any_nil, Nat.add_zero]
    exact decide_eq_false (by omega)
  | y :: l, i + 1, x, h, hp, s => by
    rw [List.take_succ_cons, List.any_cons, idxI]
    cases hy : p y with
    | true => simp only [sel, Bool.true_or]; exact decide_eq_true (by omega)
    | false =>
      have := idx_lt (l := l) (i := i) (x := x) (by simpa using h) hp (s + 1)
      rw [Bool.false_or, ← this]
      simp only [sel]
      congr 2
      omega
theorem idx_lt0 {α : Type} {p : α → Bool} {l : List α} {i : Nat} {x : α} (h : l[i]? = some x) (hp : p x = true) : decide (idxI p 0 l < (i : Int)) = (l.take i).any p := by
  have := idx_lt h hp 0
  rwa [Nat.zero_add] at this

/-! Traits -/
theorem rtv {H H0 : List AObj} (hN : NamesE E) (hR : RefE E) {t : Trait} {n0 : Nat} (ht : t.ok n0) {p q : Nat} {T : TypeId} (hq : H[q]? = some (.cells t.row T)) {i0 : Nat} (hc : CutOk H0 H) (k : List Fra) : ∀ (n i : Nat) (He : List AObj), i + n = (t.values.l).length →
    M.go a_truchmanref02_traits H0 (.c l_truchmanref02_traits_0 :: .lp ⟨(some [1, 3, 4, 5]), [], false⟩ l_truchmanref02_traits_0 He :: .blk 3 :: .c (.lv [1, 3]) :: k) (kv [(1, .ptr p 0), (3, .int .i64 i0), (4, .ptr q 0), (5, .int .i64 i)]) H =
      orE (firstE (errF (valF t)) i (t.values.l.drop i)) (H.take H0.length) (M.go a_truchmanref02_traits H0 k (kv [(1, .ptr p 0), (3, .int .i64 i0)]) H)
  | 0, i, He, h => by
    have e : i = (t.values.l).length := by omega
    subst e
    rw [go_head M l_truchmanref02_traits_0.eq_1]
    simp (maxSteps := 3000000) (maxDischargeDepth := 6) +contextual -implicitDefEqProofs only [amA M, amB, ↓slc_true, ↓slc_false, ↓slc_not, ↓fget_at, Nat.reduceBEq, Nat.reduceAdd, env, fargs, q_truchmanref02_traits, Nat.lt_irrefl, List.drop_length, qTrait, hq]
  | n + 1, i, He, h => by
    have hi : i < (t.values.l).length := by omega
    have hx : (t.values.l)[i]? = some (t.values.l)[i] := List.getElem?_eq_getElem hi
    have hd : ((t.values.l).drop i) = (t.values.l)[i] :: (t.values.l).drop (i + 1) := List.drop_eq_getElem_cons hi
    have hm : (t.values.l)[i] ∈ (t.values.l) := List.getElem_mem hi
    have ih := fun He => rtv (H := H) (H0 := H0) (hN := hN) (hR := hR) (t := t) (n0 := n0) (ht := ht) (p := p) (q := q) (T := T) (hq := hq) (i0 := i0) hc k n (i + 1)  He (by omega)
    simp only [kv_cons, kv_nil] at ih
    rw [go_head M l_truchmanref02_traits_0.eq_1]
    simp (maxSteps := 3000000) (maxDischargeDepth := 6) +contextual -implicitDefEqProofs only [amA M, amB, ↓slc_true, ↓slc_false, ↓slc_not, ↓fget_at, Nat.reduceBEq, Nat.reduceAdd, env, fargs, q_truchmanref02_traits, hx, hd, hi, ih, wrap_s hi ht.values.len, ias_row hi, qTrait, qStr, hq, run_rName M hN (ht.values.all _ hm), sll_to hi, run_rin M hR (take_len ht.values.len i), errF_eO, valF, qE, hc]
theorem rtr {H H0 : List AObj} (hN : NamesE E) (hR : RefE E) {l : Lex} {n0 : Nat} (hl : l.ok n0) {p : Nat} {T : TypeId} (hp : H[p]? = some (.cells l.row T)) (hc : CutOk H0 H) (k : List Fra) : ∀ (n i : Nat), i + n = (l.traits.l).length →
    M.go a_truchmanref02_traits H0 (.c l_truchmanref02_traits_1 :: .lp ⟨(some [1, 3]), [], true⟩ l_truchmanref02_traits_1 H :: .blk 0 :: .c (.lv []) :: k) (kv [(1, .ptr p 0), (3, .int .i64 i)]) H =
      orE (firstE (errF (traitF l)) i (l.traits.l.drop i)) (H.take H0.length) (M.go a_truchmanref02_traits H0 k .leaf H)
  | 0, i, h => by
    have e : i = (l.traits.l).length := by omega
    subst e
    rw [go_head M l_truchmanref02_traits_1.eq_1]
    simp (maxSteps := 3000000) (maxDischargeDepth := 6) +contextual -implicitDefEqProofs only [amA M, amB, ↓slc_true, ↓slc_false, ↓slc_not, ↓fget_at, Nat.reduceBEq, Nat.reduceAdd, env, fargs, q_truchmanref02_traits, Nat.lt_irrefl, List.drop_length, qLex, hp]
  | n + 1, i, h => by
    have hi : i < (l.traits.l).length := by omega
    have hx : (l.traits.l)[i]? = some (l.traits.l)[i] := List.getElem?_eq_getElem hi
    have hd : ((l.traits.l).drop i) = (l.traits.l)[i] :: (l.traits.l).drop (i + 1) := List.drop_eq_getElem_cons hi
    have hm : (l.traits.l)[i] ∈ (l.traits.l) := List.getElem_mem hi
    have ih := rtr (H := H) (H0 := H0) (hN := hN) (hR := hR) (l := l) (n0 := n0) (hl := hl) (p := p) (T := T) (hp := hp) hc k n (i + 1)  (by omega)
    simp only [kv_cons, kv_nil] at ih
    have hp' := fun L => hp_getl (L := L) hp
    have w1 : Wk H.length (.ptr p 0) (.ptr p 0) := wk_ptr (List.getElem?_eq_some_iff.1 hp).1
    have ht := hl.traits.all _ hm
    have h0 := fun k He => rtv M (H := H ++ [.cells l.traits.l[i].row t_api_Trait]) (H0 := H0) hN hR ht (p := p) (q := H.length) (T := t_api_Trait) (by rw [hp_get0]; rfl) (i0 := i) (cut_more hc _) k l.traits.l[i].values.l.length 0 He (by omega)
    simp only [kv_cons, kv_nil, Int.ofNat_zero, List.drop_zero] at h0
    rw [go_head M l_truchmanref02_traits_1.eq_1]
    simp (maxSteps := 3000000) (maxDischargeDepth := 6) +contextual -implicitDefEqProofs only [amA M, amB, ↓slc_true, ↓slc_false, ↓slc_not, ↓fget_at, Nat.reduceBEq, Nat.reduceAdd, env, fargs, q_truchmanref02_traits, hx, hd, hi, ih, amG, AV.cell, hp, hp', w1, h0, wrap_s hi hl.traits.len, ias_row hi, qLex, qTrait, run_rName M hN ht.name, run_rtrait M hR hl, idx_lt0 (p := fun t : Trait => t.name == l.traits.l[i].name) hx (by simp), errF_eO, traitF, qE, eO_errI, hc]
theorem run_rtraits (hN : NamesE E) (hR : RefE E) {l : Lex} {n : Nat} (hl : l.ok n) (H : List AObj) : M.run f_truchmanref02_traits [.agg l.row] H = some (.ret (.int .u8 (check1 l)), H) := by
  rw [run_c M hR.truchmanref02_traits rfl (c := c_truchmanref02_traits) rfl, c_truchmanref02_traits]
  have h1 := fun k => rtr M hN hR (H := H ++ [.cells l.row t_api_Lexicon]) hl (p := H.length) (T := t_api_Lexicon) (by rw [hp_get0]; rfl) (cut_app H _) k l.traits.l.length 0 (by omega)
  simp only [kv_cons, kv_nil, Int.ofNat_zero, List.drop_zero] at h1
  simp (maxSteps := 3000000) (maxDischargeDepth := 6) +contextual -implicitDefEqProofs only [amA M, amB, ↓slc_true, ↓slc_false, ↓slc_not, ↓fget_at, Nat.reduceBEq, Nat.reduceAdd, env, fargs, q_truchmanref02_traits, h1, qLex, cut_app, err_first0, sel_int, check1, eachF]

/-! Classes -/
theorem shortF_lo (s : Str) : (!shortF isLo s) = (!ofF [] s || decide (6 < (s.length : Int))) := by
  rw [ofF_nil, shortF]
  cases s.all isLo with
  | false => simp
  | true => simp only [Bool.and_true, Bool.not_true, Bool.false_or]; rw [Bool.eq_iff_iff]; simp
theorem rcs {H H0 : List AObj} (hN : NamesE E) (hR : RefE E) {l : Lex} {c : Class} {n0 : Nat} (hl : l.ok n0) (hco : c.ok n0) {p q : Nat} {T T2 : TypeId} (hp : H[p]? = some (.cells l.row T)) (hq : H[q]? = some (.cells c.row T2)) {i0 : Nat} (hc : CutOk H0 H) (k : List Fra) : ∀ (n i : Nat), i + n = (c.slots.l).length →
    M.go a_truchmanref02_classes H0 (.c l_truchmanref02_classes_0 :: .lp ⟨(some [1, 3, 4, 5]), [], true⟩ l_truchmanref02_classes_0 H :: .blk 3 :: .c (.lv [1, 3]) :: k) (kv [(1, .ptr p 0), (3, .int .i64 i0), (4, .ptr q 0), (5, .int .i64 i)]) H =
      orE (firstE (errF fun _ s => slotF l s) i (c.slots.l.drop i)) (H.take H0.length) (M.go a_truchmanref02_classes H0 k (kv [(1, .ptr p 0), (3, .int .i64 i0)]) H)
  | 0, i, h => by
    have e : i = (c.slots.l).length := by omega
    subst e
    rw [go_head M l_truchmanref02_classes_0.eq_1]
    simp (maxSteps := 3000000) (maxDischargeDepth := 6) +contextual -implicitDefEqProofs only [amA M, amB, ↓slc_true, ↓slc_false, ↓slc_not, ↓fget_at, Nat.reduceBEq, Nat.reduceAdd, env, fargs, q_truchmanref02_classes, Nat.lt_irrefl, List.drop_length, qClass, hq]
  | n + 1, i, h => by
    have hi : i < (c.slots.l).length := by omega
    have hx : (c.slots.l)[i]? = some (c.slots.l)[i] := List.getElem?_eq_getElem hi
    have hd : ((c.slots.l).drop i) = (c.slots.l)[i] :: (c.slots.l).drop (i + 1) := List.drop_eq_getElem_cons hi
    have hm : (c.slots.l)[i] ∈ (c.slots.l) := List.getElem_mem hi
    have ih := rcs (H := H) (H0 := H0) (hN := hN) (hR := hR) (l := l) (c := c) (n0 := n0) (hl := hl) (hco := hco) (p := p) (q := q) (T := T) (T2 := T2) (hp := hp) (hq := hq) (i0 := i0) hc k n (i + 1)  (by omega)
    simp only [kv_cons, kv_nil] at ih
    have hp' := fun L => hp_getl (L := L) hp
    have hq' := fun L => hp_getl (L := L) hq
    have w1 : Wk H.length (.ptr p 0) (.ptr p 0) := wk_ptr (List.getElem?_eq_some_iff.1 hp).1
    have w2 : Wk H.length (.ptr q 0) (.ptr q 0) := wk_ptr (List.getElem?_eq_some_iff.1 hq).1
    have hs := hco.slots.all _ hm
    have e1 : slotF l c.slots.l[i] = sel (decide (c.slots.l[i].cut < 0) || (decide (24 < c.slots.l[i].cut) || (!ofF [] c.slots.l[i].pre || (decide (6 < (c.slots.l[i].pre.length : Int)) || (!ofF [] c.slots.l[i].add || decide (6 < (c.slots.l[i].add.length : Int))))))) 1 (bundleF l c.slots.l[i].feats.l) := by
      rw [slotF, shortF_lo, shortF_lo]; simp only [Bool.or_assoc]
    rw [go_head M l_truchmanref02_classes_0.eq_1]
    simp (maxSteps := 3000000) (maxDischargeDepth := 6) +contextual -implicitDefEqProofs only [amA M, amB, ↓slc_true, ↓slc_false, ↓slc_not, ↓fget_at, Nat.reduceBEq, Nat.reduceAdd, env, fargs, q_truchmanref02_classes, hx, hd, hi, ih, amG, AV.cell, hp, hq, hp', hq', w1, w2, wrap_s hi hco.slots.len, ias_row hi, qLex, qClass, qSlot, run_of M hN hs.pre (more := []) (by simp), run_of M hN hs.add (more := []) (by simp), run_rbundle M hR hl hs.feats.len, errF_eO, e1, Bool.or_assoc, qE, orE_eO, hc]
theorem rclL {H H0 : List AObj} (hN : NamesE E) (hR : RefE E) {l : Lex} {n0 : Nat} (hl : l.ok n0) {p : Nat} {T : TypeId} (hp : H[p]? = some (.cells l.row T)) (hc : CutOk H0 H) (k : List Fra) : ∀ (n i : Nat), i + n = (l.classes.l).length →
    M.go a_truchmanref02_classes H0 (.c l_truchmanref02_classes_1 :: .lp ⟨(some [1, 3]), [], true⟩ l_truchmanref02_classes_1 H :: .blk 0 :: .c (.lv []) :: k) (kv [(1, .ptr p 0), (3, .int .i64 i)]) H =
      orE (firstE (errF (classF l)) i (l.classes.l.drop i)) (H.take H0.length) (M.go a_truchmanref02_classes H0 k .leaf H)
  | 0, i, h => by
    have e : i = (l.classes.l).length := by omega
    subst e
    rw [go_head M l_truchmanref02_classes_1.eq_1]
    simp (maxSteps := 3000000) (maxDischargeDepth := 6) +contextual -implicitDefEqProofs only [amA M, amB, ↓slc_true, ↓slc_false, ↓slc_not, ↓fget_at, Nat.reduceBEq, Nat.reduceAdd, env, fargs, q_truchmanref02_classes, Nat.lt_irrefl, List.drop_length, qLex, hp]
  | n + 1, i, h => by
    have hi : i < (l.classes.l).length := by omega
    have hx : (l.classes.l)[i]? = some (l.classes.l)[i] := List.getElem?_eq_getElem hi
    have hd : ((l.classes.l).drop i) = (l.classes.l)[i] :: (l.classes.l).drop (i + 1) := List.drop_eq_getElem_cons hi
    have hm : (l.classes.l)[i] ∈ (l.classes.l) := List.getElem_mem hi
    have ih := rclL (H := H) (H0 := H0) (hN := hN) (hR := hR) (l := l) (n0 := n0) (hl := hl) (p := p) (T := T) (hp := hp) hc k n (i + 1)  (by omega)
    simp only [kv_cons, kv_nil] at ih
    have hp' := fun L => hp_getl (L := L) hp
    have w1 : Wk H.length (.ptr p 0) (.ptr p 0) := wk_ptr (List.getElem?_eq_some_iff.1 hp).1
    have ht := hl.classes.all _ hm
    have h0 := fun k => rcs M (H := H ++ [.cells l.classes.l[i].row t_api_Class]) (H0 := H0) hN hR hl ht (p := p) (q := H.length) (T := T) (T2 := t_api_Class) (hp' _) (by rw [hp_get0]; rfl) (i0 := i) (cut_more hc _) k l.classes.l[i].slots.l.length 0 (by omega)
    simp only [kv_cons, kv_nil, Int.ofNat_zero, List.drop_zero] at h0
    rw [go_head M l_truchmanref02_classes_1.eq_1]
    simp (maxSteps := 3000000) (maxDischargeDepth := 6) +contextual -implicitDefEqProofs only [amA M, amB, ↓slc_true, ↓slc_false, ↓slc_not, ↓fget_at, Nat.reduceBEq, Nat.reduceAdd, env, fargs, q_truchmanref02_classes, hx, hd, hi, ih, amG, AV.cell, hp, hp', w1, h0, wrap_s hi hl.classes.len, ias_row hi, qLex, qClass, run_rName M hN ht.name, run_rClass M hR hl, idx_lt0 (p := fun t : Class => t.name == l.classes.l[i].name) hx (by simp), errF_eO, classF, qE, eO_errI, eachF, hc]
theorem run_rclasses (hN : NamesE E) (hR : RefE E) {l : Lex} {n : Nat} (hl : l.ok n) (H : List AObj) : M.run f_truchmanref02_classes [.agg l.row] H = some (.ret (.int .u8 (check2 l)), H) := by
  rw [run_c M hR.truchmanref02_classes rfl (c := c_truchmanref02_classes) rfl, c_truchmanref02_classes]
  have h1 := fun k => rclL M hN hR (H := H ++ [.cells l.row t_api_Lexicon]) hl (p := H.length) (T := t_api_Lexicon) (by rw [hp_get0]; rfl) (cut_app H _) k l.classes.l.length 0 (by omega)
  simp only [kv_cons, kv_nil, Int.ofNat_zero, List.drop_zero] at h1
  simp (maxSteps := 3000000) (maxDischargeDepth := 6) +contextual -implicitDefEqProofs only [amA M, amB, ↓slc_true, ↓slc_false, ↓slc_not, ↓fget_at, Nat.reduceBEq, Nat.reduceAdd, env, fargs, q_truchmanref02_classes, h1, qLex, cut_app, err_first0, sel_int, check2, eachF]

end Go.Am
end

section
set_option linter.unusedSimpArgs false
set_option linter.unusedVariables false
set_option maxRecDepth 100000
set_option maxHeartbeats 4000000
namespace Go.Am
open Go.RowKit
attribute [local congr] dsel_congr sel_c1 slc_cong gsel_congr go_congr aft_congr aftD_congr condR_congr backR_congr inR_congr at2_congr
variable {E : REnv} (M : Mach cdec E)

/-- Each name is less than the next one. -/
def incrFrom (p : Feat) : List Feat → Bool
  | [] => true
  | x :: l => Op.bytesLess p.name x.name && incrFrom x l
def incr : List Feat → Bool
  | [] => true
  | x :: l => incrFrom x l
def noU : AV := .tuple [.slice .any 2 [], .bool false]
def incF (b : List Feat) : Nat → Feat → Option AV := fun i x => sel (prevIs b (fun g => !Op.bytesLess g.name x.name) i) (some noU) none
theorem inc_first (b : List Feat) : ∀ (l : List Feat) (i : Nat) (f : Feat), b[i]? = some f → b.drop (i + 1) = l → firstE (incF b) (i + 1) l = sel (incrFrom f l) none (some noU)
  | [], i, f, _, _ => rfl
  | x :: l, i, f, h, hd => by
    have h2 : b[i + 1]? = some x := by
      have := List.getElem?_drop (xs := b) (i := i + 1) (j := 0)
      rw [hd] at this; simpa using this.symm
    have hd2 : b.drop (i + 1 + 1) = l := by
      have : (b.drop (i + 1)).drop 1 = l := by rw [hd]; rfl
      rwa [List.drop_drop] at this
    rw [firstE_cons, inc_first b l (i + 1) x h2 hd2, incF, prevIs_succ h, incrFrom]
    cases Op.bytesLess f.name x.name <;> cases incrFrom x l <;> rfl
theorem inc_first0 (b : List Feat) (H : List AObj) (x : Option Out) : orE (firstE (incF b) 1 (b.drop 1)) H x = sel (incr b) x (some (.ret noU, H)) := by
  cases b with
  | nil => rfl
  | cons f l =>
    rw [show List.drop 1 (f :: l) = l from rfl, inc_first (f :: l) l 0 f rfl rfl, incr]
    cases incrFrom f l <;> rfl

theorem ruc0 {H H0 : List AObj} {a b : Sl Feat} (ha : a.l.length ≤ maxL) (hb : b.l.length ≤ maxL) (hc : CutOk H0 H) (k : List Fra) : ∀ (n i : Nat) (h1 : 1 ≤ i) (He : List AObj), (a.l).length - i = n →
    M.go a_truchmanref02_Unify H0 (.c l_truchmanref02_Unify_0 :: .lp ⟨(some [0, 1, 6]), [], false⟩ l_truchmanref02_Unify_0 He :: .blk 0 :: .c (.lv [0, 1]) :: k) (kv [(0, .slice a.tag 2 (a.l.map Feat.row)), (1, .slice b.tag 2 (b.l.map Feat.row)), (6, .int .i64 i)]) H =
      orE (firstE (incF a.l) i (a.l.drop i)) (H.take H0.length) (M.go a_truchmanref02_Unify H0 k (kv [(0, .slice a.tag 2 (a.l.map Feat.row)), (1, .slice b.tag 2 (b.l.map Feat.row))]) H)
  | 0, i, h1, He, h => by
    have e : ¬ i < (a.l).length := by omega
    have e2 : (a.l).drop i = [] := List.drop_of_length_le (by omega)
    rw [go_head M l_truchmanref02_Unify_0.eq_1]
    simp (maxSteps := 3000000) (maxDischargeDepth := 6) +contextual -implicitDefEqProofs only [amA M, amB, ↓slc_true, ↓slc_false, ↓slc_not, ↓fget_at, Nat.reduceBEq, Nat.reduceAdd, env, fargs, q_truchmanref02_Unify, e, e2]
  | n + 1, i, h1, He, h => by
    have hi : i < (a.l).length := by omega
    have hx : (a.l)[i]? = some (a.l)[i] := List.getElem?_eq_getElem hi
    have hd : ((a.l).drop i) = (a.l)[i] :: (a.l).drop (i + 1) := List.drop_eq_getElem_cons hi
    have hm : (a.l)[i] ∈ (a.l) := List.getElem_mem hi
    have ih := fun h1 He => ruc0 (H := H) (H0 := H0) (a := a) (b := b) (ha := ha) (hb := hb) hc k n (i + 1) h1 He (by omega)
    simp only [kv_cons, kv_nil] at ih
    have ih := ih (by omega)
    cases i with
    | zero => omega
    | succ i =>
      have hx1 : a.l[i]? = some a.l[i] := List.getElem?_eq_getElem (by omega)
      rw [go_head M l_truchmanref02_Unify_0.eq_1]
      simp (maxSteps := 3000000) (maxDischargeDepth := 6) +contextual -implicitDefEqProofs only [amA M, amB, ↓slc_true, ↓slc_false, ↓slc_not, ↓fget_at, Nat.reduceBEq, Nat.reduceAdd, env, fargs, q_truchmanref02_Unify, hx, hd, hi, ih, qFeat, hx1, ias_row hi, ias_row (show i < a.l.length by omega), wrap_p (show i + 1 ≤ maxL by omega), wrap_s hi ha, incF, prevIs_succ hx1, hc, noU, rowsWk_nil]

theorem ruc1 {H H0 : List AObj} {a b : Sl Feat} (ha : a.l.length ≤ maxL) (hb : b.l.length ≤ maxL) (hc : CutOk H0 H) (k : List Fra) : ∀ (n i : Nat) (h1 : 1 ≤ i) (He : List AObj), (b.l).length - i = n →
    M.go a_truchmanref02_Unify H0 (.c l_truchmanref02_Unify_1 :: .lp ⟨(some [0, 1, 7]), [], false⟩ l_truchmanref02_Unify_1 He :: .blk 2 :: .c (.lv [0, 1]) :: k) (kv [(0, .slice a.tag 2 (a.l.map Feat.row)), (1, .slice b.tag 2 (b.l.map Feat.row)), (7, .int .i64 i)]) H =
      orE (firstE (incF b.l) i (b.l.drop i)) (H.take H0.length) (M.go a_truchmanref02_Unify H0 k (kv [(0, .slice a.tag 2 (a.l.map Feat.row)), (1, .slice b.tag 2 (b.l.map Feat.row))]) H)
  | 0, i, h1, He, h => by
    have e : ¬ i < (b.l).length := by omega
    have e2 : (b.l).drop i = [] := List.drop_of_length_le (by omega)
    rw [go_head M l_truchmanref02_Unify_1.eq_1]
    simp (maxSteps := 3000000) (maxDischargeDepth := 6) +contextual -implicitDefEqProofs only [amA M, amB, ↓slc_true, ↓slc_false, ↓slc_not, ↓fget_at, Nat.reduceBEq, Nat.reduceAdd, env, fargs, q_truchmanref02_Unify, e, e2]
  | n + 1, i, h1, He, h => by
    have hi : i < (b.l).length := by omega
    have hx : (b.l)[i]? = some (b.l)[i] := List.getElem?_eq_getElem hi
    have hd : ((b.l).drop i) = (b.l)[i] :: (b.l).drop (i + 1) := List.drop_eq_getElem_cons hi
    have hm : (b.l)[i] ∈ (b.l) := List.getElem_mem hi
    have ih := fun h1 He => ruc1 (H := H) (H0 := H0) (a := a) (b := b) (ha := ha) (hb := hb) hc k n (i + 1) h1 He (by omega)
    simp only [kv_cons, kv_nil] at ih
    have ih := ih (by omega)
    cases i with
    | zero => omega
    | succ i =>
      have hx1 : b.l[i]? = some b.l[i] := List.getElem?_eq_getElem (by omega)
      rw [go_head M l_truchmanref02_Unify_1.eq_1]
      simp (maxSteps := 3000000) (maxDischargeDepth := 6) +contextual -implicitDefEqProofs only [amA M, amB, ↓slc_true, ↓slc_false, ↓slc_not, ↓fget_at, Nat.reduceBEq, Nat.reduceAdd, env, fargs, q_truchmanref02_Unify, hx, hd, hi, ih, qFeat, hx1, ias_row hi, ias_row (show i < b.l.length by omega), wrap_p (show i + 1 ≤ maxL by omega), wrap_s hi hb, incF, prevIs_succ hx1, hc, noU, rowsWk_nil]

end Go.Am
end

section
set_option linter.unusedSimpArgs false
set_option linter.unusedVariables false
set_option maxRecDepth 100000
set_option maxHeartbeats 4000000
namespace Go.Am
open Go.RowKit
attribute [local congr] dsel_congr sel_c1 slc_cong gsel_congr go_congr aft_congr aftD_congr condR_congr backR_congr inR_congr at2_congr
variable {E : REnv} (M : Mach cdec E)

/-- Two bundles in one. -/
def mergeF : List Feat → List Feat → Option (List Feat)
  | [], b => some b
  | x :: a, [] => some (x :: a)
  | x :: a, y :: b =>
    match Op.bytesLess x.name y.name with
    | true => (mergeF a (y :: b)).map (x :: ·)
    | false => match Op.bytesLess y.name x.name with
      | true => (mergeF (x :: a) b).map (y :: ·)
      | false => match x.name == y.name && x.value == y.value with
        | true => (mergeF a b).map (x :: ·)
        | false => none
termination_by a b => a.length + b.length

theorem merge_b (y : Feat) (b : List Feat) : mergeF [] (y :: b) = (mergeF [] b).map (y :: ·) := by simp [mergeF]
theorem merge_a (x : Feat) (a : List Feat) : mergeF (x :: a) [] = (mergeF a []).map (x :: ·) := by
  cases a <;> simp [mergeF]
theorem merge_nil : mergeF [] [] = some [] := by simp [mergeF]

/-- What the merging of what is left comes to. -/
def mgO (M : Mach cdec E) (H0 : List AObj) (k : List Fra) (o : List Feat) (r : Option (List Feat)) (H : List AObj) : Option Out :=
  match r with
  | none => some (.ret noU, H.take H0.length)
  | some r => M.go a_truchmanref02_Unify H0 k (kv [(8, .slice (.own H.length) 2 ((o ++ r).map Feat.row))]) (H ++ [.tok ((o ++ r).length * 2) t_api_Feat])
theorem mgO_cons (H0 : List AObj) (k : List Fra) (o : List Feat) (x : Feat) (r : Option (List Feat)) (H : List AObj) : mgO M H0 k o (r.map (x :: ·)) H = mgO M H0 k (o ++ [x]) r H := by
  cases r with
  | none => rfl
  | some r => simp only [Option.map_some, mgO, List.append_assoc, List.cons_append, List.nil_append]

theorem req_feat (x y : Feat) : req (.st [(0, .str), (1, .str)]) (.agg x.row) (.agg y.row) = some (x.name == y.name && x.value == y.value) := by
  simp only [req, reqFields, Feat.row, List.getElem?_cons_zero, List.getElem?_cons_succ, reqCell]
  cases x.name == y.name <;> simp
  cases x.value == y.value <;> rfl
theorem feat_wk (n : Nat) (x : Feat) : WkL n (Feat.row x) (Feat.row x) := ⟨wk_str _ _, wk_str _ _, trivial⟩
theorem feats_wk (n : Nat) (l : List Feat) : RowsWk n (l.map Feat.row) := by
  rw [rowsWk_map]; exact fun _ _ => ⟨wk_str _ _, wk_str _ _, trivial⟩

theorem rum {a b : Sl Feat} {H H0 : List AObj} (hc : CutOk H0 H) (k : List Fra) : ∀ (n i j : Nat) (o : List Feat) (He : List AObj), i ≤ a.l.length → j ≤ b.l.length → (a.l.length - i) + (b.l.length - j) = n → o.length + n ≤ 4000000000000 → a.l.length + b.l.length ≤ 4000000000000 →
    M.go a_truchmanref02_Unify H0 (.c l_truchmanref02_Unify_2 :: .lp ⟨(some [0, 1, 8, 9, 10]), [(8, 2, t_api_Feat)], false⟩ l_truchmanref02_Unify_2 He :: .blk 4 :: .c (.lv [8]) :: k) (kv [(0, .slice a.tag 2 (a.l.map Feat.row)), (1, .slice b.tag 2 (b.l.map Feat.row)), (8, .slice (.own H.length) 2 (o.map Feat.row)), (9, .int .i64 i), (10, .int .i64 j)]) (H ++ [.tok (o.length * 2) t_api_Feat]) =
      mgO M H0 k o (mergeF (a.l.drop i) (b.l.drop j)) H
  | n, i, j, o, He, hi, hj, hn, ho, hab => by
    have bi : i < a.l.length → IntKind.i64.wrap ((i : Int) + 1) = ((i + 1 : Nat) : Int) := fun h => wrap_s h (by simp only [maxL]; omega)
    have bj : j < b.l.length → IntKind.i64.wrap ((j : Int) + 1) = ((j + 1 : Nat) : Int) := fun h => wrap_s h (by simp only [maxL]; omega)
    have ap := fun (x : Feat) (h : o.length + 1 ≤ 4000000000000) => ap_own (row := Feat.row) (l := o) (x := x) (r := x.row) (sz := 2) (bytes := 32) (e := t_api_Feat) H rfl rfl rfl (by omega) (by omega)
    by_cases h1 : i < a.l.length
    · have hx : a.l[i]? = some a.l[i] := List.getElem?_eq_getElem h1
      have hd : a.l.drop i = a.l[i] :: a.l.drop (i + 1) := List.drop_eq_getElem_cons h1
      have hol : o.length + 1 ≤ 4000000000000 := by omega
      have i1 := fun He => rum hc k (n - 1) (i + 1) j (o ++ [a.l[i]]) He (by omega) hj (by omega) (by simp; omega) hab
      have hne : (i == a.l.length) = false := by simp; omega
      by_cases h2 : j < b.l.length
      · have hy : b.l[j]? = some b.l[j] := List.getElem?_eq_getElem h2
        have hdy : b.l.drop j = b.l[j] :: b.l.drop (j + 1) := List.drop_eq_getElem_cons h2
        have i2 := fun He => rum hc k (n - 1) i (j + 1) (o ++ [b.l[j]]) He hi (by omega) (by omega) (by simp; omega) hab
        have i3 := fun He => rum hc k (n - 2) (i + 1) (j + 1) (o ++ [a.l[i]]) He (by omega) (by omega) (by omega) (by simp; omega) hab
        have hne2 : (j == b.l.length) = false := by simp; omega
        simp only [kv_cons, kv_nil] at i1 i2 i3
        rw [hd, hdy, mergeF, ← hd, ← hdy]
        cases c1 : Op.bytesLess a.l[i].name b.l[j].name with
        | true =>
          simp only [mgO_cons]
          rw [go_head M l_truchmanref02_Unify_2.eq_1]
          simp (maxSteps := 3000000) (maxDischargeDepth := 6) +contextual -implicitDefEqProofs only [amA M, amB, ↓slc_true, ↓slc_false, ↓slc_not, ↓fget_at, Nat.reduceBEq, Nat.reduceAdd, env, fargs, q_truchmanref02_Unify, amG, AV.cell, Nat.reduceMul, Nat.reduceLeDiff, hx, hy, h1, h2, bi h1, bj h2, qFeat, ias_row h1, ias_row h2, hne, hne2, c1, ap a.l[i] hol, i1]
        | false =>
          simp only
          cases c2 : Op.bytesLess b.l[j].name a.l[i].name with
          | true =>
            simp only [mgO_cons]
            rw [go_head M l_truchmanref02_Unify_2.eq_1]
            simp (maxSteps := 3000000) (maxDischargeDepth := 6) +contextual -implicitDefEqProofs only [amA M, amB, ↓slc_true, ↓slc_false, ↓slc_not, ↓fget_at, Nat.reduceBEq, Nat.reduceAdd, env, fargs, q_truchmanref02_Unify, amG, AV.cell, Nat.reduceMul, Nat.reduceLeDiff, hx, hy, h1, h2, bi h1, bj h2, qFeat, ias_row h1, ias_row h2, hne, hne2, c1, c2, ap b.l[j] hol, i2]
          | false =>
            simp only
            cases c3 : (a.l[i].name == b.l[j].name && a.l[i].value == b.l[j].value) with
            | true =>
              simp only [mgO_cons]
              rw [go_head M l_truchmanref02_Unify_2.eq_1]
              simp (maxSteps := 3000000) (maxDischargeDepth := 6) +contextual -implicitDefEqProofs only [amA M, amB, ↓slc_true, ↓slc_false, ↓slc_not, ↓fget_at, Nat.reduceBEq, Nat.reduceAdd, env, fargs, q_truchmanref02_Unify, amG, AV.cell, Nat.reduceMul, Nat.reduceLeDiff, hx, hy, h1, h2, bi h1, bj h2, qFeat, ias_row h1, ias_row h2, hne, hne2, c1, c2, c3, req_feat, ap a.l[i] hol, i3]
            | false =>
              simp only [mgO]
              rw [go_head M l_truchmanref02_Unify_2.eq_1]
              simp (maxSteps := 3000000) (maxDischargeDepth := 6) +contextual -implicitDefEqProofs only [amA M, amB, ↓slc_true, ↓slc_false, ↓slc_not, ↓fget_at, Nat.reduceBEq, Nat.reduceAdd, env, fargs, q_truchmanref02_Unify, amG, AV.cell, Nat.reduceMul, Nat.reduceLeDiff, hx, hy, h1, h2, bi h1, bj h2, qFeat, ias_row h1, ias_row h2, hne, hne2, c1, c2, c3, req_feat, hc, noU, rowsWk_nil]
      · obtain rfl : j = b.l.length := by omega
        have hdy : b.l.drop b.l.length = [] := List.drop_length
        simp only [kv_cons, kv_nil] at i1
        rw [hd, hdy, merge_a, mgO_cons]
        rw [hdy] at i1
        rw [go_head M l_truchmanref02_Unify_2.eq_1]
        simp (maxSteps := 3000000) (maxDischargeDepth := 6) +contextual -implicitDefEqProofs only [amA M, amB, ↓slc_true, ↓slc_false, ↓slc_not, ↓fget_at, Nat.reduceBEq, Nat.reduceAdd, env, fargs, q_truchmanref02_Unify, amG, AV.cell, Nat.reduceMul, Nat.reduceLeDiff, hx, h1, Nat.lt_irrefl, bi h1, qFeat, ias_row h1, hne, beq_self_eq_true, ap a.l[i] hol, i1]
    · obtain rfl : i = a.l.length := by omega
      have hdx : a.l.drop a.l.length = [] := List.drop_length
      by_cases h2 : j < b.l.length
      · have hy : b.l[j]? = some b.l[j] := List.getElem?_eq_getElem h2
        have hdy : b.l.drop j = b.l[j] :: b.l.drop (j + 1) := List.drop_eq_getElem_cons h2
        have hol : o.length + 1 ≤ 4000000000000 := by omega
        have i2 := fun He => rum hc k (n - 1) a.l.length (j + 1) (o ++ [b.l[j]]) He hi (by omega) (by omega) (by simp; omega) hab
        have hne2 : (j == b.l.length) = false := by simp; omega
        simp only [kv_cons, kv_nil] at i2
        rw [hdx, hdy, merge_b, mgO_cons]
        rw [hdx] at i2
        rw [go_head M l_truchmanref02_Unify_2.eq_1]
        simp (maxSteps := 3000000) (maxDischargeDepth := 6) +contextual -implicitDefEqProofs only [amA M, amB, ↓slc_true, ↓slc_false, ↓slc_not, ↓fget_at, Nat.reduceBEq, Nat.reduceAdd, env, fargs, q_truchmanref02_Unify, amG, AV.cell, Nat.reduceMul, Nat.reduceLeDiff, hy, h2, Nat.lt_irrefl, bj h2, qFeat, ias_row h2, hne2, beq_self_eq_true, ap b.l[j] hol, i2]
      · obtain rfl : j = b.l.length := by omega
        rw [hdx, List.drop_length, merge_nil, mgO, List.append_nil]
        rw [go_head M l_truchmanref02_Unify_2.eq_1]
        simp (maxSteps := 3000000) (maxDischargeDepth := 6) +contextual -implicitDefEqProofs only [amA M, amB, ↓slc_true, ↓slc_false, ↓slc_not, ↓fget_at, Nat.reduceBEq, Nat.reduceAdd, env, fargs, q_truchmanref02_Unify, Nat.lt_irrefl]
termination_by n => n
decreasing_by all_goals omega

def unifyF (a b : List Feat) : Option (List Feat) := sel (incr a) (sel (incr b) (mergeF a b) none) none
def uniV (r : Option (List Feat)) : AV :=
  match r with
  | none => noU
  | some r => .tuple [.slice .any 2 (r.map Feat.row), .bool true]
theorem run_rUnify (hR : RefE E) {a b : Sl Feat} (hab : a.l.length + b.l.length ≤ 4000000000000) (H : List AObj) :
    M.run f_truchmanref02_Unify [.slice a.tag 2 (a.l.map Feat.row), .slice b.tag 2 (b.l.map Feat.row)] H = some (.ret (uniV (unifyF a.l b.l)), H) := by
  rw [run_c M hR.truchmanref02_Unify rfl (c := c_truchmanref02_Unify) rfl, c_truchmanref02_Unify]
  have ha : a.l.length ≤ maxL := by simp only [maxL]; omega
  have hb : b.l.length ≤ maxL := by simp only [maxL]; omega
  have h1 := fun k He => ruc0 M ha hb (cut_refl H) k (a.l.length - 1) 1 (by omega) He rfl
  have h2 := fun k He => ruc1 M ha hb (cut_refl H) k (b.l.length - 1) 1 (by omega) He rfl
  have h3 := fun k He => rum M (a := a) (b := b) (cut_refl H) k (a.l.length + b.l.length) 0 0 [] He (by omega) (by omega) (by omega) (by simp; omega) hab
  simp only [kv_cons, kv_nil, Int.ofNat_zero, (show ((1 : Nat) : Int) = 1 from rfl), List.drop_zero, inc_first0, List.length_nil, Nat.zero_mul, List.map_nil] at h1 h2 h3
  simp (maxSteps := 3000000) (maxDischargeDepth := 6) +contextual -implicitDefEqProofs only [amA M, amB, ↓slc_true, ↓slc_false, ↓slc_not, ↓fget_at, Nat.reduceBEq, Nat.reduceAdd, env, fargs, q_truchmanref02_Unify, h1, h2, h3]
  unfold unifyF
  cases incr a.l with
  | false => rfl
  | true =>
    cases incr b.l with
    | false => rfl
    | true =>
      simp only [Bool.and_true, slc_true, sel]
      cases mergeF a.l b.l with
      | none => simp only [mgO, hp_self, uniV]
      | some r =>
        simp only [mgO, List.nil_append, uniV]
        simp (maxSteps := 3000000) (maxDischargeDepth := 6) +contextual -implicitDefEqProofs only [amA M, amB, ↓slc_true, ↓slc_false, ↓slc_not, ↓fget_at, Nat.reduceBEq, Nat.reduceAdd, env, fargs, q_truchmanref02_Unify, feat_wk, implies_true]

end Go.Am
end

section
set_option linter.unusedSimpArgs false
set_option linter.unusedVariables false
namespace Go.Am
open Go.RowKit

/-! Plain laws: strings in order, bundles -/
theorem bl_irr : ∀ x : Str, Op.bytesLess x x = false
  | [] => rfl
  | a :: x => by
    have h : ¬ a < a := by simp
    simp only [Op.bytesLess, bl_irr x, Bool.and_false, Bool.or_false, decide_eq_false h]
theorem bl_tri : ∀ {x y : Str}, Op.bytesLess x y = false → Op.bytesLess y x = false → x = y
  | [], [], _, _ => rfl
  | [], _ :: _, h, _ => by simp [Op.bytesLess] at h
  | _ :: _, [], _, h => by simp [Op.bytesLess] at h
  | a :: x, b :: y, h1, h2 => by
    simp only [Op.bytesLess, Bool.or_eq_false_iff, decide_eq_false_iff_not] at h1 h2
    have hab : a = b := UInt8.le_antisymm (UInt8.not_lt.1 h2.1) (UInt8.not_lt.1 h1.1)
    subst hab
    simp only [beq_self_eq_true, Bool.true_and] at h1 h2
    rw [bl_tri h1.2 h2.2]
theorem bl_trans : ∀ {x y z : Str}, Op.bytesLess x y = true → Op.bytesLess y z = true → Op.bytesLess x z = true
  | _, [], _, h, _ => by cases ‹List UInt8› <;> simp [Op.bytesLess] at h
  | _, _ :: _, [], _, h => by simp [Op.bytesLess] at h
  | [], _ :: _, _ :: _, _, _ => rfl
  | a :: x, b :: y, c :: z, h1, h2 => by
    simp only [Op.bytesLess, Bool.or_eq_true, decide_eq_true_eq, Bool.and_eq_true, beq_iff_eq] at h1 h2 ⊢
    rcases h1 with h1 | ⟨rfl, h1⟩
    · rcases h2 with h2 | ⟨rfl, h2⟩
      · exact .inl (UInt8.lt_trans h1 h2)
      · exact .inl h1
    · rcases h2 with h2 | ⟨rfl, h2⟩
      · exact .inl h2
      · exact .inr ⟨rfl, bl_trans h1 h2⟩
theorem bl_asymm {x y : Str} (h : Op.bytesLess x y = true) : Op.bytesLess y x = false := by
  cases h2 : Op.bytesLess y x with
  | false => rfl
  | true => have := bl_trans h h2; rw [bl_irr] at this; cases this
theorem bl_ne {x y : Str} (h : Op.bytesLess x y = true) : (x == y) = false := by
  cases h2 : x == y with
  | false => rfl
  | true => rw [eq_of_beq h2, bl_irr] at h; cases h

theorem incrFrom_all : ∀ {l : List Feat} {p : Feat}, incrFrom p l = true → ∀ x ∈ l, Op.bytesLess p.name x.name = true
  | [], _, _, _, h => by cases h
  | y :: l, p, h, x, hx => by
    simp only [incrFrom, Bool.and_eq_true] at h
    rcases List.mem_cons.1 hx with rfl | hx
    · exact h.1
    · exact bl_trans h.1 (incrFrom_all h.2 x hx)
theorem incr_tail {x : Feat} {l : List Feat} (h : incr (x :: l) = true) : incr l = true := by
  cases l with
  | nil => rfl
  | cons y l => simp only [incr, incrFrom, Bool.and_eq_true] at h ⊢; exact h.2

theorem clash_none {x : Feat} {b : List Feat} (h : ∀ y ∈ b, (x.name == y.name) = false) : (b.any fun g => clashes x g) = false := by
  rw [List.any_eq_false]
  intro y hy
  simp [clashes, h y hy]
theorem clash_cons (x : Feat) (a b : List Feat) : clashF (x :: a) b = ((b.any fun g => clashes x g) || clashF a b) := rfl
theorem clash_consR (y : Feat) : ∀ (a b : List Feat), clashF a (y :: b) = ((a.any fun f => clashes f y) || clashF a b)
  | [], _ => rfl
  | x :: a, b => by
    rw [clash_cons, clash_cons, clash_consR y a b, List.any_cons, List.any_cons]
    cases clashes x y <;> cases (b.any fun g => clashes x g) <;> cases (a.any fun f => clashes f y) <;> simp
theorem clash_noneR {y : Feat} {a : List Feat} (h : ∀ x ∈ a, (x.name == y.name) = false) : (a.any fun f => clashes f y) = false := by
  rw [List.any_eq_false]
  intro x hx
  simp [clashes, h x hx]

theorem merge_clash : ∀ (n : Nat) (a b : List Feat), a.length + b.length ≤ n → incr a = true → incr b = true → (mergeF a b).isSome = !clashF a b
  | _, [], b, _, _, _ => by cases b <;> simp [mergeF, clashF]
  | _, x :: a, [], _, _, _ => by
    have : clashF (x :: a) [] = false := by simp [clashF]
    rw [this]; simp [mergeF]
  | 0, x :: a, y :: b, h, _, _ => by simp at h
  | n + 1, x :: a, y :: b, h, ha, hb => by
    have hxa : ∀ z ∈ a, Op.bytesLess x.name z.name = true := incrFrom_all ha
    have hyb : ∀ z ∈ b, Op.bytesLess y.name z.name = true := incrFrom_all hb
    simp only [List.length_cons] at h
    rw [mergeF]
    cases c1 : Op.bytesLess x.name y.name with
    | true =>
      simp only [Option.isSome_map]
      rw [merge_clash n a (y :: b) (by simp only [List.length_cons]; omega) (incr_tail ha) hb, clash_cons, clash_none (x := x) (b := y :: b) (fun z hz => by
        rcases List.mem_cons.1 hz with rfl | hz
        · exact bl_ne c1
        · exact bl_ne (bl_trans c1 (hyb z hz))), Bool.false_or]
    | false =>
      simp only
      cases c2 : Op.bytesLess y.name x.name with
      | true =>
        simp only [Option.isSome_map]
        rw [merge_clash n (x :: a) b (by simp only [List.length_cons]; omega) ha (incr_tail hb), clash_consR, clash_noneR (y := y) (a := x :: a) (fun z hz => by
          rw [str_beq_comm]
          rcases List.mem_cons.1 hz with rfl | hz
          · exact bl_ne c2
          · exact bl_ne (bl_trans c2 (hxa z hz))), Bool.false_or]
      | false =>
        have hn := bl_tri c1 c2
        simp only [hn, beq_self_eq_true, Bool.true_and]
        cases c3 : x.value == y.value with
        | true =>
          simp only [Option.isSome_map]
          rw [merge_clash n a b (by omega) (incr_tail ha) (incr_tail hb), clash_cons, clash_consR, List.any_cons, clash_none (x := x) (b := b) (fun z hz => by rw [hn]; exact bl_ne (hyb z hz)),
            clash_noneR (y := y) (a := a) (fun z hz => by rw [str_beq_comm, ← hn]; exact bl_ne (hxa z hz))]
          simp [clashes, c3]
        | false =>
          simp only [Option.isSome_none]
          rw [clash_cons, List.any_cons]
          simp [clashes, hn, c3]

theorem unify_clash {a b : List Feat} (ha : incr a = true) (hb : incr b = true) : (unifyF a b).isSome = !clashF a b := by
  rw [unifyF, ha, hb]
  exact merge_clash _ a b (Nat.le_refl _) ha hb

/-! A bundle without error -/
theorem errI_zero {α : Type} {F : Nat → α → Int} : ∀ {l : List α} {s : Nat}, errI F s l = 0 → ∀ (k : Nat) (x : α), l[k]? = some x → F (s + k) x = 0
  | [], _, _, k, x, h => by simp at h
  | y :: l, s, h, k, x, hx => by
    rw [errI] at h
    cases hy : F s y == 0 with
    | false =>
      rw [hy] at h
      simp only [Bool.not_false, sel] at h
      rw [h] at hy; simp at hy
    | true =>
      rw [hy] at h
      simp only [Bool.not_true, sel] at h
      cases k with
      | zero => obtain rfl : y = x := by simpa using hx
                exact eq_of_beq hy
      | succ k =>
        have := errI_zero h k x (by simpa using hx)
        rwa [show s + 1 + k = s + (k + 1) by omega] at this
theorem each_zero {α : Type} {F : Nat → α → Int} {most : Int} {l : List α} (h : eachF most F l = 0) : (l.length : Int) ≤ most ∧ ∀ (k : Nat) (x : α), l[k]? = some x → F k x = 0 := by
  unfold eachF at h
  cases hd : decide (most < (l.length : Int)) with
  | true => rw [hd] at h; simp [sel] at h
  | false =>
    rw [hd] at h
    simp only [sel] at h
    refine ⟨by simpa using hd, fun k x hx => ?_⟩
    have := errI_zero h k x hx
    rwa [Nat.zero_add] at this
theorem incr_of : ∀ {l : List Feat}, (∀ (i : Nat) (g f : Feat), l[i]? = some g → l[i + 1]? = some f → Op.bytesLess g.name f.name = true) → incr l = true
  | [], _ => rfl
  | [x], _ => rfl
  | x :: y :: l, h => by
    have h0 := h 0 x y rfl rfl
    have h1 : incr (y :: l) = true := incr_of (fun i g f hg hf => h (i + 1) g f (by simpa using hg) (by simpa using hf))
    simp only [incr, incrFrom, Bool.and_eq_true] at h1 ⊢
    exact ⟨h0, h1⟩
theorem bundle_ok {l : Lex} {b : List Feat} (h : bundleF l b = 0) : b.length ≤ 8 ∧ incr b = true := by
  obtain ⟨h1, h2⟩ := each_zero h
  refine ⟨by omega, incr_of fun i g f hg hf => ?_⟩
  have := h2 (i + 1) f hf
  unfold bunF at this
  split at this
  · exact absurd this (by decide)
  · rw [prevIs_succ hg, prevIs_succ hg] at this
    revert this
    cases (!List.any _ _) with
    | true => intro h; simp [sel] at h
    | false =>
      cases c : g.name == f.name with
      | true => intro h; simp [sel] at h
      | false =>
        cases c2 : Op.bytesLess g.name f.name with
        | true => intro _; rfl
        | false => intro h; simp [sel] at h

end Go.Am
end

section
set_option linter.unusedSimpArgs false
set_option linter.unusedVariables false
set_option maxRecDepth 100000
set_option maxHeartbeats 4000000
namespace Go.Am
open Go.RowKit
attribute [local congr] dsel_congr sel_c1 slc_cong gsel_congr go_congr aft_congr aftD_congr condR_congr backR_congr inR_congr at2_congr
variable {E : REnv} (M : Mach cdec E)

structure UniE (E : REnv) : Prop where
  morph_increasing : E.fn f_morph_increasing = some a_morph_increasing
  slices_Grow_api_Feat_api_Feat : E.fn f_slices_Grow_api_Feat_api_Feat = some a_slices_Grow_api_Feat_api_Feat
  slices_Concat_api_Feat_api_Feat : E.fn f_slices_Concat_api_Feat_api_Feat = some a_slices_Concat_api_Feat_api_Feat
  slices_Compact_api_Feat_api_Feat : E.fn f_slices_Compact_api_Feat_api_Feat = some a_slices_Compact_api_Feat_api_Feat
  morph_union : E.fn f_morph_union = some a_morph_union
  morph_Unify : E.fn f_morph_Unify = some a_morph_Unify
  truchmanlaw02_SameFeats : E.fn f_truchmanlaw02_SameFeats = some a_truchmanlaw02_SameFeats
  slices_Index_api_Feat_api_Feat : E.fn f_slices_Index_api_Feat_api_Feat = some a_slices_Index_api_Feat_api_Feat
  slices_Contains_api_Feat_api_Feat : E.fn f_slices_Contains_api_Feat_api_Feat = some a_slices_Contains_api_Feat_api_Feat
  morph_Subsumes_1 : E.fn f_morph_Subsumes_1 = some a_morph_Subsumes_1
  morph_Subsumes : E.fn f_morph_Subsumes = some a_morph_Subsumes
  truchmanref02_Subsumes : E.fn f_truchmanref02_Subsumes = some a_truchmanref02_Subsumes

/-! Lists of features, cell by cell -/
def rowsF (l : List Feat) : List AV := (l.map Feat.row).flatten
def zerosF (n : Nat) : List AV := (List.replicate n [AV.str [], AV.str []]).flatten
theorem rowsF_len (l : List Feat) : (rowsF l).length = l.length * 2 := by
  unfold rowsF
  induction l with
  | nil => rfl
  | cons x l ih => simp only [List.map_cons, List.flatten_cons, List.length_append, ih, List.length_cons]; simp [Feat.row]; omega
theorem rowsF_app (a b : List Feat) : rowsF (a ++ b) = rowsF a ++ rowsF b := by simp [rowsF]
theorem zerosF_len (n : Nat) : (zerosF n).length = n * 2 := by
  unfold zerosF; rw [List.length_flatten]; simp
theorem zerosF_rows (n : Nat) : zerosF n = rowsF (List.replicate n ⟨[], []⟩) := by simp [zerosF, rowsF, Feat.row]

theorem run_Grow0 (hU : UniE E) (H : List AObj) : M.run f_slices_Grow_api_Feat_api_Feat [.slice .nil 2 [], .int .i64 0] H = some (.ret (.slice .nil 2 []), H) := by
  rw [run_c M hU.slices_Grow_api_Feat_api_Feat rfl (c := c_slices_Grow_api_Feat_api_Feat) rfl, c_slices_Grow_api_Feat_api_Feat]
  have w0 : IntKind.i64.wrap 0 = 0 := by decide
  simp (maxSteps := 3000000) (maxDischargeDepth := 6) +contextual -implicitDefEqProofs only [amA M, amB, ↓slc_true, ↓slc_false, ↓slc_not, ↓fget_at, Nat.reduceBEq, Nat.reduceAdd, env, fargs, q_slices_Grow_api_Feat_api_Feat, rcap, List.length_nil, Int.ofNat_zero, Int.sub_self, w0, (show decide ((0 : Int) < 0) = false from rfl)]
theorem run_Grow (hU : UniE E) {n : Nat} (h0 : 0 < n) (hn : n ≤ 4000000000) (H : List AObj) :
    M.run f_slices_Grow_api_Feat_api_Feat [.slice .nil 2 [], .int .i64 n] H = some (.ret (.rslice H.length 0 0 2 true), H ++ [.cells (zerosF n) t_api_Feat]) := by
  rw [run_c M hU.slices_Grow_api_Feat_api_Feat rfl (c := c_slices_Grow_api_Feat_api_Feat) rfl, c_slices_Grow_api_Feat_api_Feat]
  have w0 : IntKind.i64.wrap 0 = 0 := by decide
  have w1 : IntKind.i64.wrap ((n : Int) - 0) = (n : Int) := by rw [wrap_i64 (by omega) (by omega)]; omega
  have h1 : decide ((n : Int) < 0) = false := decide_eq_false (by omega)
  have h2 : decide ((n : Int) > 0) = true := decide_eq_true (by omega)
  have e1 : rsll 2 (.slice .nil 2 []) none (some (.int .i64 0)) none = some (.slice .nil 2 []) := rfl
  have e2 : rapz H t_api_Feat 2 32 [.str [], .str []] (.slice .nil 2 []) (.int .i64 n) = some (.rslice H.length 0 n 2 true, H ++ [.cells (zerosF n) t_api_Feat]) := by
    have a1 : ¬ (n : Int) = 0 := by omega
    have a2 : (0 : Int) < n ∧ (n : Int).toNat * 32 ≤ 140737488355328 ∧ (n : Int) ≤ 4611686018427387904 := by refine ⟨by omega, ?_, by omega⟩; simp; omega
    unfold rapz; dsimp only; rw [if_neg a1, if_pos a2]; rfl
  have e3 : rsll 2 (.rslice H.length 0 n 2 true) none (some (.int .i64 0)) none = some (.rslice H.length 0 0 2 true) := by simp [rsll, abound]
  simp (maxSteps := 3000000) (maxDischargeDepth := 6) +contextual -implicitDefEqProofs only [amA M, amB, ↓slc_true, ↓slc_false, ↓slc_not, ↓fget_at, Nat.reduceBEq, Nat.reduceAdd, env, fargs, q_slices_Grow_api_Feat_api_Feat, amZ, rcap, List.length_nil, Int.ofNat_zero, Int.sub_self, w0, w1, h1, h2, e1, e2, e3]

theorem take_zeros (n : Nat) : (zerosF n).take (0 * 2) = [] := by simp
theorem rap_first {H : List AObj} {n : Nat} {t : Tag} {a : List Feat} (h : a.length ≤ 4000000000) :
    rap true (H ++ [.cells (zerosF n) t_api_Feat]) t_api_Feat 2 32 false (.rslice H.length 0 0 2 true) (.slice t 2 (a.map Feat.row)) = some (.rslice (H.length + 1) 0 a.length 2 true, H ++ [.dead, .cells (rowsF a) t_api_Feat]) := by
  have hr : rowsOk 2 (a.map Feat.row) = true := by simp [rowsOk, Feat.row, AV.cell]
  simp only [rap, rappM, rsrc, or_true, if_true, hr, hp_get0, List.length_map, Nat.zero_add, Nat.zero_mul, Nat.zero_le, true_and, List.take_zero, List.nil_append, hp_set0, List.length_append, List.length_cons, List.length_nil, List.getElem?_cons_zero, List.set_cons_zero]
  rw [if_pos ⟨by omega, by omega⟩]
  simp [rowsF]
theorem rap_next {H : List AObj} {a b : List Feat} {t : Tag} (h : a.length + b.length ≤ 4000000000) :
    rap true (H ++ [.dead, .cells (rowsF a) t_api_Feat]) t_api_Feat 2 32 false (.rslice (H.length + 1) 0 a.length 2 true) (.slice t 2 (b.map Feat.row)) = some (.rslice (H.length + 2) 0 (a ++ b).length 2 true, H ++ [.dead, .dead, .cells (rowsF (a ++ b)) t_api_Feat]) := by
  have hr : rowsOk 2 (b.map Feat.row) = true := by simp [rowsOk, Feat.row, AV.cell]
  have hg : (H ++ [AObj.dead, .cells (rowsF a) t_api_Feat])[H.length + 1]? = some (.cells (rowsF a) t_api_Feat) := by rw [hp_getk]; rfl
  have hs : (H ++ [AObj.dead, .cells (rowsF a) t_api_Feat]).set (H.length + 1) .dead = H ++ [.dead, .dead] := by
    rw [List.set_append_right _ _ (by omega)]; simp
  simp only [rap, rappM, rsrc, or_true, if_true, hr, hg, hs, List.length_map, true_and, List.length_append, List.length_cons, List.length_nil]
  rw [if_pos ⟨by rw [rowsF_len]; exact Nat.le_refl _, by omega, by omega⟩]
  have e : (rowsF a).take (a.length * 2) = rowsF a := List.take_of_length_le (by rw [rowsF_len]; exact Nat.le_refl _)
  rw [e, rowsF_app]
  simp [rowsF]
theorem rap_empty {H : List AObj} {t : Tag} (ht : t = .nil ∨ t = .full) {t2 : Tag} : rap true H t_api_Feat 2 32 false (.slice t 2 []) (.slice t2 2 []) = some (.slice .full 2 [], H) := by
  rcases ht with rfl | rfl <;> rfl
theorem bs_two (ta tb : Tag) (ra rb : List (List AV)) : afill (fun i => some (i * 1, 1)) (zrow 2 [AV.slice .nil 0 []]) [(0, .slice ta 2 ra), (1, .slice tb 2 rb)] = some [.slice ta 2 ra, .slice tb 2 rb] := rfl
theorem run_Concat (hU : UniE E) {a b : List Feat} {ta tb : Tag} (h0 : 0 < a.length + b.length) (h : a.length + b.length ≤ 4000000000) (H : List AObj) :
    M.run f_slices_Concat_api_Feat_api_Feat [.slice .full 1 [[.slice ta 2 (a.map Feat.row)], [.slice tb 2 (b.map Feat.row)]]] H = some (.ret (.rslice (H.length + 2) 0 (a ++ b).length 2 true), H ++ [.dead, .dead, .cells (rowsF (a ++ b)) t_api_Feat]) := by
  rw [run_c M hU.slices_Concat_api_Feat_api_Feat rfl (c := c_slices_Concat_api_Feat_api_Feat) rfl, c_slices_Concat_api_Feat_api_Feat]
  have w1 : IntKind.i64.wrap (0 + (a.length : Int)) = (a.length : Int) := by rw [wrap_i64 (by omega) (by omega)]; omega
  have w2 : IntKind.i64.wrap ((a.length : Int) + (b.length : Int)) = ((a.length + b.length : Nat) : Int) := by rw [wrap_i64 (by omega) (by omega)]; omega
  have w3 : IntKind.i64.wrap (0 + 1) = 1 := by decide
  have w4 : IntKind.i64.wrap (1 + 1) = 2 := by decide
  have d1 : decide ((a.length : Int) < 0) = false := decide_eq_false (by omega)
  have d2 : decide (((a.length + b.length : Nat) : Int) < 0) = false := decide_eq_false (by omega)
  have i0 : rias 1 (.slice .full 1 [[.slice ta 2 (a.map Feat.row)], [.slice tb 2 (b.map Feat.row)]]) (.int .i64 0) = some (.vptr 1 [[.slice ta 2 (a.map Feat.row)], [.slice tb 2 (b.map Feat.row)]] 0 0) := rfl
  have i1 : rias 1 (.slice .full 1 [[.slice ta 2 (a.map Feat.row)], [.slice tb 2 (b.map Feat.row)]]) (.int .i64 1) = some (.vptr 1 [[.slice ta 2 (a.map Feat.row)], [.slice tb 2 (b.map Feat.row)]] 1 0) := rfl
  have n0 : (([[.slice ta 2 (a.map Feat.row)], [.slice tb 2 (b.map Feat.row)]] : List (List AV)).length : Int) = 2 := rfl
  have n1 : decide ((0 : Int) < 2) = true := rfl
  have n2 : decide ((1 : Int) < 2) = true := rfl
  have n3 : decide ((2 : Int) < 2) = false := rfl
  have g0 : ([[.slice ta 2 (a.map Feat.row)], [.slice tb 2 (b.map Feat.row)]] : List (List AV))[0]? = some [.slice ta 2 (a.map Feat.row)] := rfl
  have g1 : ([[.slice ta 2 (a.map Feat.row)], [.slice tb 2 (b.map Feat.row)]] : List (List AV))[1]? = some [.slice tb 2 (b.map Feat.row)] := rfl
  have l0 : ∀ x : AV, rload none [x] 0 = some x := fun _ => rfl
  simp (maxSteps := 3000000) (maxDischargeDepth := 6) +contextual -implicitDefEqProofs only [amA M, amB, ↓slc_true, ↓slc_false, ↓slc_not, ↓fget_at, Nat.reduceBEq, Nat.reduceAdd, env, fargs, q_slices_Concat_api_Feat_api_Feat, n0, n1, n2, n3, g0, g1, l0, go_head M l_slices_Concat_api_Feat_api_Feat_0.eq_1, go_head M l_slices_Concat_api_Feat_api_Feat_1.eq_1, w1, w2, w3, w4, d1, d2, i0, i1, run_Grow M hU h0 h, rap_first (show a.length ≤ 4000000000 by omega), rap_next h]

end Go.Am
end

section
set_option linter.unusedSimpArgs false
set_option linter.unusedVariables false
set_option maxRecDepth 100000
set_option maxHeartbeats 4000000
namespace Go.Am
open Go.RowKit
attribute [local congr] dsel_congr sel_c1 slc_cong gsel_congr go_congr aft_congr aftD_congr condR_congr backR_congr inR_congr at2_congr
variable {E : REnv} (M : Mach cdec E)

/-! slices.Compact -/
def ddF : Feat → List Feat → List Feat
  | _, [] => []
  | p, q :: t => if (q.name == p.name && q.value == p.value) = true then ddF q t else q :: ddF q t
def jkF : List Feat → Feat → List Feat → List Feat
  | mid, p, [] => mid ++ [p]
  | mid, p, q :: t => if (q.name == p.name && q.value == p.value) = true then jkF (mid ++ [p]) q t else jkF ((mid ++ [p]).tail) q t
def compL : List Feat → List Feat
  | [] => []
  | x :: l => x :: ddF x l
theorem jk_len : ∀ (t mid : List Feat) (p : Feat), (jkF mid p t).length + (ddF p t).length = mid.length + 1 + t.length
  | [], mid, p => by simp [jkF, ddF]
  | q :: t, mid, p => by
    rw [jkF, ddF]
    split
    · rw [jk_len t (mid ++ [p]) q]; simp; omega
    · rw [List.length_cons, ← Nat.add_assoc, jk_len t ((mid ++ [p]).tail) q]; simp; omega
theorem rload_row (A B : List Feat) (q : Feat) (rest : List AV) {n : Nat} (h : n = A.length * 2) : rload (some 2) (rowsF (A ++ q :: B) ++ rest) n = some (.agg q.row) := by
  subst h
  have hl := rowsF_len A
  have e : rowsF (A ++ q :: B) ++ rest = rowsF A ++ (q.row ++ (rowsF B ++ rest)) := by rw [rowsF_app]; simp [rowsF]
  have hq : q.row.length = 2 := rfl
  simp only [rload]
  rw [e, if_pos (by simp only [List.length_append, hl, hq]; omega), ← hl, List.drop_left, List.take_left' hq]
theorem setRow_mid : ∀ (A x y rest : List AV), x.length = y.length → setRow (A ++ (x ++ rest)) A.length y = A ++ (y ++ rest)
  | A, [], [], rest, _ => by simp [setRow_nil]
  | A, [], _ :: _, rest, h => by cases h
  | A, _ :: _, [], rest, h => by cases h
  | A, b :: x, a :: y, rest, h => by
    rw [setRow_cons]
    have h2 : (A ++ (b :: x ++ rest)).set A.length a = (A ++ [a]) ++ (x ++ rest) := by simp
    have := setRow_mid (A ++ [a]) x y rest (by simpa using h)
    rw [List.length_append, List.length_cons, List.length_nil, Nat.zero_add] at this
    rw [h2, this]; simp
theorem setRow_row (A B : List Feat) (m q : Feat) (rest : List AV) {n : Nat} (h : n = A.length * 2) : setRow (rowsF (A ++ m :: B) ++ rest) n q.row = rowsF (A ++ q :: B) ++ rest := by
  subst h
  have e : ∀ m : Feat, rowsF (A ++ m :: B) ++ rest = rowsF A ++ (m.row ++ (rowsF B ++ rest)) := fun m => by rw [rowsF_app]; simp [rowsF]
  rw [e, e, ← rowsF_len A, setRow_mid (rowsF A) m.row q.row (rowsF B ++ rest) rfl]
theorem ias_rs {id off len n : Nat} {room : Bool} (h : n < len) : rias 2 (.rslice id off len 2 room) (.int .i64 (n : Int)) = some (.ptr id (off + n * 2)) := by simp [rias, h]
theorem rload_ptr {g : Option Nat} {H : List AObj} {id n : Nat} {cs : List AV} {T : TypeId} (h : H[id]? = some (.cells cs T)) : rloadAt g H (.ptr id n) = rload g cs n := by simp [rloadAt, h]
theorem set_get {H : List AObj} {id : Nat} (h : id < H.length) (o : AObj) : (H.set id o)[id]? = some o := by simp [h]

theorem wk_feats (n : Nat) (L : List Feat) (rest : List AV) (hr : ∀ c ∈ rest, Wk n c c) (T : TypeId) : WkObj n (.cells (rowsF L ++ rest) T) := fun c hc => by
  rcases List.mem_append.1 hc with h | h
  · unfold rowsF at h
    obtain ⟨r, hr1, hr2⟩ := List.mem_flatten.1 h
    obtain ⟨f, _, rfl⟩ := List.mem_map.1 hr1
    simp only [Feat.row, List.mem_cons, List.not_mem_nil, or_false] at hr2
    rcases hr2 with rfl | rfl <;> exact wk_str _ _
  · exact hr c h

theorem cpi (hU : UniE E) {H H0 : List AObj} {id : Nat} (hid : id < H.length) {T : TypeId} {rest : List AV} (k : List Fra) {n off : Nat} (hn : n ≤ 4000000000) :
    ∀ (t out mid : List Feat) (p : Feat) (k2 : Nat) (He : List AObj), out.length + mid.length + 1 = off + k2 → out.length + mid.length + 1 + t.length = n → 1 ≤ k2 →
    M.go a_slices_Compact_api_Feat_api_Feat H0 (.c l_slices_Compact_api_Feat_api_Feat_0 :: .lp ⟨(some [0, 3, 4, 5]), [], false⟩ l_slices_Compact_api_Feat_api_Feat_0 He :: .blk 2 :: .c (.lv [0, 3]) :: k) (kv [(0, .rslice id 0 n 2 true), (3, .int .i64 out.length), (4, .rslice id (off * 2) (n - off) 2 true), (5, .int .i64 k2)]) (H.set id (.cells (rowsF (out ++ (mid ++ p :: t)) ++ rest) T)) =
      M.go a_slices_Compact_api_Feat_api_Feat H0 k (kv [(0, .rslice id 0 n 2 true), (3, .int .i64 (out ++ ddF p t).length)]) (H.set id (.cells (rowsF ((out ++ ddF p t) ++ jkF mid p t) ++ rest) T))
  | [], out, mid, p, k2, He, h1, h2, h3 => by
    have d : decide (k2 < n - off) = false := decide_eq_false (by simp at h2; omega)
    have e : rowsF ((out ++ ddF p []) ++ jkF mid p []) = rowsF (out ++ (mid ++ [p])) := by simp [ddF, jkF]
    rw [e, show out ++ ddF p [] = out by simp [ddF]]
    rw [go_head M l_slices_Compact_api_Feat_api_Feat_0.eq_1]
    simp (maxSteps := 3000000) (maxDischargeDepth := 6) +contextual -implicitDefEqProofs only [amA M, amB, ↓slc_true, ↓slc_false, ↓slc_not, ↓fget_at, Nat.reduceBEq, Nat.reduceAdd, env, fargs, q_slices_Compact_api_Feat_api_Feat, d, rlen]
  | q :: t, out, mid, p, k2, He, h1, h2, h3 => by
    simp only [List.length_cons] at h2
    have d : decide (k2 < n - off) = true := decide_eq_true (by omega)
    have b1 : IntKind.i64.wrap ((k2 : Int) - 1) = ((k2 - 1 : Nat) : Int) := by rw [wrap_i64 (by omega) (by omega)]; omega
    have b2 : IntKind.i64.wrap ((k2 : Int) + 1) = ((k2 + 1 : Nat) : Int) := by rw [wrap_i64 (by omega) (by omega)]; omega
    have b3 : IntKind.i64.wrap ((out.length : Int) + 1) = ((out.length + 1 : Nat) : Int) := by rw [wrap_i64 (by omega) (by omega)]; omega
    have i1 : rias 2 (.rslice id (off * 2) (n - off) 2 true) (.int .i64 (k2 : Int)) = some (.ptr id (off * 2 + k2 * 2)) := ias_rs (by omega)
    have i2 : rias 2 (.rslice id (off * 2) (n - off) 2 true) (.int .i64 ((k2 - 1 : Nat) : Int)) = some (.ptr id (off * 2 + (k2 - 1) * 2)) := ias_rs (by omega)
    have i3 : rias 2 (.rslice id 0 n 2 true) (.int .i64 (out.length : Int)) = some (.ptr id (0 + out.length * 2)) := ias_rs (by omega)
    have hg : ∀ c, (H.set id c)[id]? = some c := fun c => set_get hid c
    have l1 : rload (some 2) (rowsF (out ++ (mid ++ p :: q :: t)) ++ rest) (off * 2 + k2 * 2) = some (.agg q.row) := by
      have := rload_row (out ++ (mid ++ [p])) t q rest (n := off * 2 + k2 * 2) (by simp; omega)
      simpa [List.append_assoc] using this
    have l2 : rload (some 2) (rowsF (out ++ (mid ++ p :: q :: t)) ++ rest) (off * 2 + (k2 - 1) * 2) = some (.agg p.row) := by
      have := rload_row (out ++ mid) (q :: t) p rest (n := off * 2 + (k2 - 1) * 2) (by simp; omega)
      simpa [List.append_assoc] using this
    cases hqp : (q.name == p.name && q.value == p.value) with
    | true =>
      have ih := fun He => cpi hU (H := H) (H0 := H0) hid (T := T) (rest := rest) k (off := off) hn t out (mid ++ [p]) q (k2 + 1) He (by simp; omega) (by simp; omega) (by omega)
      simp only [kv_cons, kv_nil, List.append_assoc, List.cons_append, List.nil_append] at ih
      rw [ddF, if_pos hqp, jkF, if_pos hqp, List.append_assoc out (ddF q t)]
      rw [go_head M l_slices_Compact_api_Feat_api_Feat_0.eq_1]
      simp (maxSteps := 3000000) (maxDischargeDepth := 6) +contextual -implicitDefEqProofs only [amA M, amB, ↓slc_true, ↓slc_false, ↓slc_not, ↓fget_at, Nat.reduceBEq, Nat.reduceAdd, env, fargs, q_slices_Compact_api_Feat_api_Feat, d, rlen, b1, b2, i1, i2, hg, l1, l2, rload_ptr (hg _), req_feat, hqp, ih]
    | false =>
      have hne : ¬ ((q.name == p.name && q.value == p.value) = true) := by rw [hqp]; simp
      obtain ⟨m0, mid', hm⟩ : ∃ m0 mid', mid ++ [p] = m0 :: mid' := by cases mid with
        | nil => exact ⟨p, [], rfl⟩
        | cons a b => exact ⟨a, b ++ [p], rfl⟩
      have hml : mid'.length = mid.length := by have := congrArg List.length hm; simp at this; omega
      have ih := fun He => cpi hU (H := H) (H0 := H0) hid (T := T) (rest := rest) k (off := off) hn t (out ++ [q]) mid' q (k2 + 1) He (by simp; omega) (by simp; omega) (by omega)
      have hst : setRow (rowsF (out ++ (mid ++ p :: q :: t)) ++ rest) (0 + out.length * 2) q.row = rowsF ((out ++ [q]) ++ (mid' ++ q :: t)) ++ rest := by
        have e1 : out ++ (mid ++ p :: q :: t) = out ++ m0 :: (mid' ++ q :: t) := by
          have : mid ++ p :: q :: t = (mid ++ [p]) ++ q :: t := by simp
          rw [this, hm]; rfl
        rw [e1, setRow_row out (mid' ++ q :: t) m0 q rest (by omega)]; simp
      have hlen : 0 + out.length * 2 + 2 ≤ (rowsF (out ++ (mid ++ p :: q :: t)) ++ rest).length := by
        rw [List.length_append, rowsF_len]; simp; omega
      rw [ddF, if_neg hne, jkF, if_neg hne, hm, List.tail_cons]
      simp only [kv_cons, kv_nil, List.length_append, List.length_cons, List.length_nil, Nat.zero_add] at ih
      rw [show out ++ q :: ddF q t = (out ++ [q]) ++ ddF q t by simp, show ((out ++ [q]) ++ ddF q t).length = out.length + 1 + (ddF q t).length by simp; omega]
      have hss : ∀ a b, (H.set id a).set id b = H.set id b := fun a b => by rw [List.set_set]
      rw [go_head M l_slices_Compact_api_Feat_api_Feat_0.eq_1]
      have hsto : stO 2 (H.set id (.cells (rowsF (out ++ (mid ++ p :: q :: t)) ++ rest) T)) id (0 + out.length * 2) q.row (some (.cells (rowsF (out ++ (mid ++ p :: q :: t)) ++ rest) T)) = some (H.set id (.cells (rowsF ((out ++ [q]) ++ (mid' ++ q :: t)) ++ rest) T)) := by
        simp only [stO]
        rw [if_pos ⟨rfl, hlen, rfl⟩, hst, hss]
      simp (maxSteps := 3000000) (maxDischargeDepth := 6) +contextual -implicitDefEqProofs only [amA M, amB, ↓slc_true, ↓slc_false, ↓slc_not, ↓fget_at, Nat.reduceBEq, Nat.reduceAdd, env, fargs, q_slices_Compact_api_Feat_api_Feat, d, rlen, b1, b2, b3, i1, i2, i3, hg, l1, l2, rload_ptr (hg _), req_feat, hqp, hsto, (show ∀ H, runit (some H) = some (undefA, H) from fun _ => rfl), ih]

theorem cut_set {H0 H : List AObj} (h : CutOk H0 H) (id : Nat) {o : AObj} (hw : WkObj H0.length o) : CutOk H0 (H.set id o) := by
  refine ⟨by simpa using h.1, fun i x hi hx => ?_⟩
  rw [List.getElem?_set] at hx
  split at hx
  · split at hx
    · cases hx; exact .inr hw
    · cases hx
  · exact h.2 i x hi hx
/-- What Compact comes to: from a place on. -/
def cpR (M : Mach cdec E) (H0 : List AObj) (k : List Fra) (id : Nat) (T : TypeId) (rest : List AV) (H : List AObj) (n : Nat) : List Feat → Feat → List Feat → Option Out
  | _, _, [] => M.go a_slices_Compact_api_Feat_api_Feat H0 k (kv [(0, .rslice id 0 n 2 true)]) H
  | out, p, q :: t => if (q.name == p.name && q.value == p.value) = true then
      some (.ret (.rslice id 0 (out ++ p :: ddF q t).length 2 true), (H.set id (.cells (rowsF (out ++ p :: ddF q t) ++ (zerosF (n - (out ++ p :: ddF q t).length) ++ rest)) T)).take H0.length)
    else cpR M H0 k id T rest H n (out ++ [p]) q t
theorem cpo (hU : UniE E) {H H0 : List AObj} {id : Nat} (hid : id < H.length) (hi0 : id < H0.length) (hc : CutOk H0 H) {T : TypeId} {rest : List AV} (hr : ∀ c ∈ rest, Wk H0.length c c) (k : List Fra) {l : List Feat} (hn : l.length ≤ 4000000000) (hx : H[id]? = some (.cells (rowsF l ++ rest) T)) :
    ∀ (t out : List Feat) (p : Feat) (He : List AObj), l = out ++ p :: t →
    M.go a_slices_Compact_api_Feat_api_Feat H0 (.c l_slices_Compact_api_Feat_api_Feat_1 :: .lp ⟨(some [0, 3]), [], false⟩ l_slices_Compact_api_Feat_api_Feat_1 He :: .blk 0 :: .c (.lv [0]) :: k) (kv [(0, .rslice id 0 l.length 2 true), (3, .int .i64 (out.length + 1 : Nat))]) H = cpR M H0 k id T rest H l.length out p t
  | [], out, p, He, hl => by
    have d : decide (out.length + 1 < l.length) = false := decide_eq_false (by rw [hl]; simp)
    rw [cpR]
    rw [go_head M l_slices_Compact_api_Feat_api_Feat_1.eq_1]
    simp (maxSteps := 3000000) (maxDischargeDepth := 6) +contextual -implicitDefEqProofs only [amA M, amB, ↓slc_true, ↓slc_false, ↓slc_not, ↓fget_at, Nat.reduceBEq, Nat.reduceAdd, env, fargs, q_slices_Compact_api_Feat_api_Feat, d, rlen]
  | q :: t, out, p, He, hl => by
    have hll : l.length = out.length + 1 + (t.length + 1) := by rw [hl]; simp; omega
    have d : decide (out.length + 1 < l.length) = true := decide_eq_true (by omega)
    have b1 : IntKind.i64.wrap (((out.length + 1 : Nat) : Int) - 1) = ((out.length : Nat) : Int) := by rw [wrap_i64 (by omega) (by omega)]; omega
    have b2 : IntKind.i64.wrap (((out.length + 1 : Nat) : Int) + 1) = ((out.length + 1 + 1 : Nat) : Int) := by rw [wrap_i64 (by omega) (by omega)]; omega
    have i1 : rias 2 (.rslice id 0 l.length 2 true) (.int .i64 ((out.length + 1 : Nat) : Int)) = some (.ptr id (0 + (out.length + 1) * 2)) := ias_rs (by omega)
    have i2 : rias 2 (.rslice id 0 l.length 2 true) (.int .i64 ((out.length : Nat) : Int)) = some (.ptr id (0 + out.length * 2)) := ias_rs (by omega)
    have l1 : rload (some 2) (rowsF l ++ rest) (0 + (out.length + 1) * 2) = some (.agg q.row) := by
      have := rload_row (out ++ [p]) t q rest (n := 0 + (out.length + 1) * 2) (by simp)
      rw [hl]; simpa [List.append_assoc] using this
    have l2 : rload (some 2) (rowsF l ++ rest) (0 + out.length * 2) = some (.agg p.row) := by
      rw [hl]; exact rload_row out (q :: t) p rest (by omega)
    cases hqp : (q.name == p.name && q.value == p.value) with
    | true =>
      rw [cpR, if_pos hqp]
      have hin := fun k He => cpi M hU (H := H) (H0 := H0) hid (T := T) (rest := rest) k (n := l.length) (off := out.length + 1) hn t (out ++ [p]) [] q 1 He (by simp) (by simp; omega) (by omega)
      have hl2 : l = (out ++ [p]) ++ ([] ++ q :: t) := by rw [hl]; simp
      have hs : H.set id (.cells (rowsF ((out ++ [p]) ++ ([] ++ q :: t)) ++ rest) T) = H := by rw [← hl2]; exact set_same hx
      have ho : (out ++ [p]).length = out.length + 1 := by simp
      simp only [hs, ho, (show ((1 : Nat) : Int) = 1 from rfl)] at hin
      simp only [kv_cons, kv_nil] at hin
      generalize hK : (out ++ [p]) ++ ddF q t = K at hin
      have hjk := jk_len t [] q
      have hKl : K.length + (jkF [] q t).length = l.length := by rw [← hK, hll]; simp; simp at hjk; omega
      have hjp : 0 < (jkF [] q t).length := by
        have : (ddF q t).length ≤ t.length := by
          have key : ∀ (t : List Feat) (q : Feat), (ddF q t).length ≤ t.length := fun t => by
            induction t with
            | nil => intro q; simp [ddF]
            | cons a t ih =>
              intro q; rw [ddF]; have := ih a; split <;> simp <;> omega
          exact key t q
        simp at hjk; omega
      have hKp : 0 < K.length := by rw [← hK]; simp; omega
      have s1 : rsll 2 (.rslice id 0 l.length 2 true) (some (.int .i64 ((out.length + 1 : Nat) : Int))) none none = some (.rslice id ((out.length + 1) * 2) (l.length - (out.length + 1)) 2 true) := by
        simp only [rsll, abound]
        rw [if_pos (by omega), Int.toNat_natCast]
        simp only []
        rw [if_pos ⟨trivial, .inl (by omega), Nat.le_refl _⟩, Nat.zero_add]
      have s2 : rsll 2 (.rslice id 0 l.length 2 true) (some (.int .i64 (K.length : Int))) none none = some (.rslice id (K.length * 2) (l.length - K.length) 2 true) := by
        simp only [rsll, abound]
        rw [if_pos (by omega), Int.toNat_natCast]
        simp only []
        rw [if_pos ⟨trivial, .inl (by omega), Nat.le_refl _⟩, Nat.zero_add]
      have s3 : rsll 2 (.rslice id 0 l.length 2 true) none (some (.int .i64 (K.length : Int))) none = some (.rslice id 0 K.length 2 true) := by
        simp only [rsll, abound]
        rw [if_pos (by omega), Int.toNat_natCast]
        simp only []
        rw [if_pos ⟨trivial, .inl (by omega), by omega⟩]; simp
      have hcl : rcl (H.set id (.cells (rowsF (K ++ jkF [] q t) ++ rest) T)) 2 [.str [], .str []] (.rslice id (K.length * 2) (l.length - K.length) 2 true) = some (H.set id (.cells (rowsF K ++ (zerosF (l.length - K.length) ++ rest)) T)) := by
        simp only [rcl, set_get hid]
        rw [if_pos ⟨trivial, by rw [List.length_append, rowsF_len, List.length_append]; omega⟩, List.set_set]
        have e : rowsF (K ++ jkF [] q t) ++ rest = rowsF K ++ (rowsF (jkF [] q t) ++ rest) := by rw [rowsF_app]; simp
        have := setRow_mid (rowsF K) (rowsF (jkF [] q t)) (zerosF (l.length - K.length)) rest (by rw [rowsF_len, zerosF_len]; omega)
        rw [rowsF_len] at this
        rw [e]
        show some (H.set id (.cells (setRow _ _ (zerosF (l.length - K.length))) T)) = _
        rw [this]
      have hcut : CutOk H0 (H.set id (.cells (rowsF K ++ (zerosF (l.length - K.length) ++ rest)) T)) := cut_set hc id (wk_feats _ K _ (fun c hcm => by
        rcases List.mem_append.1 hcm with h | h
        · rw [zerosF_rows] at h
          exact wk_feats _ _ [] (fun _ h => by cases h) T c (by simpa using h)
        · exact hr c h) T)
      have hfin : handV cdec .drop H0 (H.set id (.cells (rowsF K ++ (zerosF (l.length - K.length) ++ rest)) T)) (.rslice id 0 K.length 2 true) = some (.rslice id 0 K.length 2 true, (H.set id (.cells (rowsF K ++ (zerosF (l.length - K.length) ++ rest)) T)).take H0.length) := handV_drop hcut (wk_rslice hi0)
      have hK2 : out ++ p :: ddF q t = K := by rw [← hK]; simp
      rw [hK2]
      rw [go_head M l_slices_Compact_api_Feat_api_Feat_1.eq_1]
      simp (maxSteps := 3000000) (maxDischargeDepth := 6) +contextual -implicitDefEqProofs only [amA M, amB, ↓slc_true, ↓slc_false, ↓slc_not, ↓fget_at, Nat.reduceBEq, Nat.reduceAdd, env, fargs, q_slices_Compact_api_Feat_api_Feat, amZ, d, rlen, b1, i1, i2, hx, l1, l2, rload_ptr hx, req_feat, hqp, s1, s2, s3, hin, hcl, hfin]
    | false =>
      have hne : ¬ ((q.name == p.name && q.value == p.value) = true) := by rw [hqp]; simp
      rw [cpR, if_neg hne]
      have ih := fun He => cpo hU (H0 := H0) hid hi0 hc hr k hn hx t (out ++ [p]) q He (by rw [hl]; simp)
      have ho : (out ++ [p]).length = out.length + 1 := by simp
      simp only [kv_cons, kv_nil, ho] at ih
      rw [go_head M l_slices_Compact_api_Feat_api_Feat_1.eq_1]
      simp (maxSteps := 3000000) (maxDischargeDepth := 6) +contextual -implicitDefEqProofs only [amA M, amB, ↓slc_true, ↓slc_false, ↓slc_not, ↓fget_at, Nat.reduceBEq, Nat.reduceAdd, env, fargs, q_slices_Compact_api_Feat_api_Feat, d, rlen, b1, b2, i1, i2, hx, l1, l2, rload_ptr hx, req_feat, hqp, ih]

end Go.Am
end

section
set_option linter.unusedSimpArgs false
set_option linter.unusedVariables false
namespace Go.Am
open Go.RowKit

/-! Plain laws: the union of two bundles is what they are merged to -/
def Str1 (l : List Feat) : Prop := l.Pairwise fun x y => Op.bytesLess x.name y.name = true
def Wek (l : List Feat) : Prop := l.Pairwise fun x y => Op.bytesLess y.name x.name = false
theorem incr_str : ∀ {l : List Feat}, incr l = true → Str1 l
  | [], _ => .nil
  | x :: l, h => .cons (incrFrom_all h) (incr_str (incr_tail h))
theorem sameF_eq {x y : Feat} (h : (x.name == y.name && x.value == y.value) = true) : x = y := by
  simp only [Bool.and_eq_true, beq_iff_eq] at h
  cases x; cases y; simp only at h; rw [h.1, h.2]
theorem sameF_self (x : Feat) : (x.name == x.name && x.value == x.value) = true := by simp
theorem str_name {l : List Feat} (h : Str1 l) {x y : Feat} (hx : x ∈ l) (hy : y ∈ l) (hn : x.name = y.name) : x = y := by
  induction l with
  | nil => cases hx
  | cons a l ih =>
    rw [Str1, List.pairwise_cons] at h
    rcases List.mem_cons.1 hx with hx1 | hx1 <;> rcases List.mem_cons.1 hy with hy1 | hy1
    · rw [hx1, hy1]
    · have := h.1 y hy1; rw [← hx1, hn, bl_irr] at this; cases this
    · have := h.1 x hx1; rw [← hy1, hn, bl_irr] at this; cases this
    · exact ih h.2 hx1 hy1
theorem str_ext : ∀ {l m : List Feat}, Str1 l → Str1 m → (∀ x, x ∈ l ↔ x ∈ m) → l = m
  | [], [], _, _, _ => rfl
  | [], y :: m, _, _, h => by have := (h y).2 (by simp); cases this
  | x :: l, [], _, _, h => by have := (h x).1 (by simp); cases this
  | x :: l, y :: m, hl, hm, h => by
    rw [Str1, List.pairwise_cons] at hl hm
    have hxy : x = y := by
      rcases List.mem_cons.1 ((h x).1 (by simp)) with e | h1
      · exact e
      · rcases List.mem_cons.1 ((h y).2 (by simp)) with e | h2
        · exact e.symm
        · have a1 := hm.1 x h1
          have a2 := hl.1 y h2
          rw [bl_asymm a1] at a2; cases a2
    subst hxy
    congr 1
    refine str_ext hl.2 hm.2 fun z => ⟨fun hz => ?_, fun hz => ?_⟩
    · rcases List.mem_cons.1 ((h z).1 (by simp [hz])) with e | h1
      · have := hl.1 z hz; rw [e, bl_irr] at this; cases this
      · exact h1
    · rcases List.mem_cons.1 ((h z).2 (by simp [hz])) with e | h1
      · have := hm.1 z hz; rw [e, bl_irr] at this; cases this
      · exact h1

theorem merge_props : ∀ (n : Nat) (a b m : List Feat), a.length + b.length ≤ n → Str1 a → Str1 b → mergeF a b = some m → (∀ x, x ∈ m ↔ x ∈ a ∨ x ∈ b) ∧ Str1 m
  | _, [], b, m, _, _, hb, h => by
    have : mergeF [] b = some b := by cases b <;> simp [mergeF]
    rw [this] at h; cases h
    exact ⟨fun x => by simp, hb⟩
  | _, x :: a, [], m, _, ha, _, h => by
    have : mergeF (x :: a) [] = some (x :: a) := by simp [mergeF]
    rw [this] at h; cases h
    exact ⟨fun x => by simp, ha⟩
  | 0, x :: a, y :: b, m, hl, _, _, _ => by simp at hl
  | n + 1, x :: a, y :: b, m, hl, ha, hb, h => by
    have ha' := ha; have hb' := hb
    rw [Str1, List.pairwise_cons] at ha hb
    simp only [List.length_cons] at hl
    rw [mergeF] at h
    cases c1 : Op.bytesLess x.name y.name with
    | true =>
      rw [c1] at h
      simp only [Option.map_eq_some_iff] at h
      obtain ⟨m', h1, rfl⟩ := h
      obtain ⟨g1, g2⟩ := merge_props n a (y :: b) m' (by simp only [List.length_cons]; omega) ha.2 hb' h1
      refine ⟨fun z => by rw [List.mem_cons, g1, List.mem_cons (a := z) (b := x), or_assoc], List.pairwise_cons.2 ⟨fun z hz => ?_, g2⟩⟩
      rcases (g1 z).1 hz with h | h
      · exact ha.1 z h
      · rcases List.mem_cons.1 h with rfl | h
        · exact c1
        · exact bl_trans c1 (hb.1 z h)
    | false =>
      rw [c1] at h
      simp only at h
      cases c2 : Op.bytesLess y.name x.name with
      | true =>
        rw [c2] at h
        simp only [Option.map_eq_some_iff] at h
        obtain ⟨m', h1, rfl⟩ := h
        obtain ⟨g1, g2⟩ := merge_props n (x :: a) b m' (by simp only [List.length_cons]; omega) ha' hb.2 h1
        refine ⟨fun z => by rw [List.mem_cons, g1, List.mem_cons (a := z) (b := y) (l := b)]; exact or_left_comm, List.pairwise_cons.2 ⟨fun z hz => ?_, g2⟩⟩
        rcases (g1 z).1 hz with h | h
        · rcases List.mem_cons.1 h with rfl | h
          · exact c2
          · exact bl_trans c2 (ha.1 z h)
        · exact hb.1 z h
      | false =>
        rw [c2] at h
        simp only at h
        have hn := bl_tri c1 c2
        cases c3 : (x.name == y.name && x.value == y.value) with
        | false => rw [c3] at h; cases h
        | true =>
          rw [c3] at h
          simp only [Option.map_eq_some_iff] at h
          obtain ⟨m', h1, rfl⟩ := h
          have hxy := sameF_eq c3
          subst hxy
          obtain ⟨g1, g2⟩ := merge_props n a b m' (by omega) ha.2 hb.2 h1
          refine ⟨fun z => by rw [List.mem_cons, g1, List.mem_cons (a := z) (b := x) (l := a), List.mem_cons (a := z) (b := x) (l := b)]; exact or_or_distrib_left, List.pairwise_cons.2 ⟨fun z hz => ?_, g2⟩⟩
          rcases (g1 z).1 hz with h | h
          · exact ha.1 z h
          · exact hb.1 z h

theorem dd_mem : ∀ (l : List Feat) (p q : Feat), q ∈ p :: ddF p l ↔ q ∈ p :: l
  | [], p, q => by simp [ddF]
  | r :: t, p, q => by
    rw [ddF]
    split
    · rename_i h
      obtain rfl := sameF_eq h
      rw [dd_mem t r q]; simp
    · rw [List.mem_cons, dd_mem t r q, List.mem_cons (a := q) (b := p)]
theorem dd_str : ∀ (l : List Feat) (p : Feat), Wek (p :: l) → (∀ x ∈ p :: l, ∀ y ∈ p :: l, x.name = y.name → x = y) → Str1 (p :: ddF p l)
  | [], p, _, _ => by simp [ddF, Str1]
  | q :: t, p, hw, hu => by
    have hw' := hw
    rw [Wek, List.pairwise_cons] at hw
    have ih := dd_str t q hw.2 (fun x hx y hy => hu x (by simp at hx ⊢; exact .inr hx) y (by simp at hy ⊢; exact .inr hy))
    rw [ddF]
    split
    · rename_i h
      obtain rfl := sameF_eq h
      exact ih
    · rename_i h
      have hpq : Op.bytesLess p.name q.name = true := by
        have h1 := hw.1 q (by simp)
        cases h2 : Op.bytesLess p.name q.name with
        | true => rfl
        | false =>
          have := hu p (by simp) q (by simp) (bl_tri h2 h1)
          subst this
          exact absurd (sameF_self p) h
      refine List.pairwise_cons.2 ⟨fun z hz => ?_, ih⟩
      rcases List.mem_cons.1 hz with rfl | hz
      · exact hpq
      · exact bl_trans hpq ((List.pairwise_cons.1 ih).1 z hz)

/-- A sort by names. -/
structure Srt (srt : List Feat → List Feat) : Prop where
  perm : ∀ l, (srt l).Perm l
  ord : ∀ l, Wek (srt l)
theorem no_clash {a b : List Feat} (ha : Str1 a) (hb : Str1 b) (hc : clashF a b = false) : ∀ x ∈ a ++ b, ∀ y ∈ a ++ b, x.name = y.name → x = y := by
  have hab : ∀ x ∈ a, ∀ y ∈ b, x.name = y.name → x = y := fun x hx y hy hn => by
    have h1 : (b.any fun g => clashes x g) = false := by
      unfold clashF at hc
      rw [List.any_eq_false] at hc
      have := hc x hx
      simpa using this
    rw [List.any_eq_false] at h1
    have h2 := h1 y hy
    simp only [clashes, hn, beq_self_eq_true, Bool.true_and, Bool.not_eq_true, Bool.not_eq_false'] at h2
    cases x; cases y; simp only at hn h2; rw [hn, eq_of_beq h2]
  intro x hx y hy hn
  rcases List.mem_append.1 hx with hx | hx <;> rcases List.mem_append.1 hy with hy | hy
  · exact str_name ha hx hy hn
  · exact hab x hx y hy hn
  · exact (hab y hy x hx hn.symm).symm
  · exact str_name hb hx hy hn
theorem comp_props {srt : List Feat → List Feat} (hs : Srt srt) {l : List Feat} (hu : ∀ x ∈ l, ∀ y ∈ l, x.name = y.name → x = y) : (∀ x, x ∈ compL (srt l) ↔ x ∈ l) ∧ Str1 (compL (srt l)) := by
  have hp := hs.perm l
  have ho := hs.ord l
  generalize srt l = s at hp ho
  have hm : ∀ x, x ∈ s ↔ x ∈ l := fun x => hp.mem_iff
  cases s with
  | nil => exact ⟨fun x => by rw [← hm]; rfl, .nil⟩
  | cons p s => exact ⟨fun x => by rw [← hm]; exact dd_mem s p x, dd_str s p ho fun x hx y hy => hu x ((hm x).1 hx) y ((hm y).1 hy)⟩
def unifyP (srt : List Feat → List Feat) (a b : List Feat) : Option (List Feat) := sel (incr a && incr b && !clashF a b) (some (compL (srt (a ++ b)))) none
theorem unify_eq {srt : List Feat → List Feat} (hs : Srt srt) (a b : List Feat) : unifyP srt a b = unifyF a b := by
  unfold unifyP unifyF
  cases ha : incr a with
  | false => rfl
  | true =>
    cases hb : incr b with
    | false => rfl
    | true =>
      have hc := merge_clash _ a b (Nat.le_refl _) ha hb
      simp only [Bool.true_and, sel]
      cases hcl : clashF a b with
      | true =>
        rw [hcl] at hc
        cases hm : mergeF a b with
        | none => rfl
        | some m => rw [hm] at hc; cases hc
      | false =>
        rw [hcl] at hc
        cases hm : mergeF a b with
        | none => rw [hm] at hc; cases hc
        | some m =>
          obtain ⟨g1, g2⟩ := merge_props _ a b m (Nat.le_refl _) (incr_str ha) (incr_str hb) hm
          obtain ⟨g3, g4⟩ := comp_props hs (no_clash (incr_str ha) (incr_str hb) hcl)
          simp only [Bool.not_false]
          congr 1
          exact str_ext g4 g2 fun x => by rw [g3, g1, List.mem_append]

end Go.Am
end

section
set_option linter.unusedSimpArgs false
namespace Go.Am
open Go.RowKit Go.Sort Go.Proofs Go.Lib

/-! slices.SortFunc of pairs of strings, by the first ones. -/

abbrev Pr := List UInt8 × List UInt8
def pRow (x : Pr) : List AV := [.str x.1, .str x.2]
def encP (x : Pr) : List Value := [.string ⟨x.1.toArray⟩, .string ⟨x.2.toArray⟩]
def cmpP (x y : Pr) : Int := Lib.compareBytes x.1 y.1
def sortP (d : Array Pr) : Array Pr := pdq (ltOf cmpP) d 0 d.size (Lib.bitLen d.size) true true
def sortL (l : List Pr) : List Pr := (sortP l.toArray).toList

section
variable {P : Program} {G : Nat → Option (List AV)} {K : Know} {H : List AObj} {w : World}

theorem Inv.drewN (hi : Inv K H w) : ∀ n, Inv K H (w.drewN n)
  | 0 => by rw [World.drewN_zero]; exact hi
  | n + 1 => (Inv.drewN hi n).drew

theorem Inv.grow (hi : Inv K H w) (os : Array Obj) : Inv K H (Go.Sort.grow w os) := by
  obtain ⟨l, rfl⟩ : ∃ l : List Obj, os = l.toArray := ⟨os.toList, by simp⟩
  induction l generalizing w with
  | nil => simpa using hi
  | cons o l ih =>
    have := ih (hi.junk o)
    rw [alloc_eq_grow, grow_grow] at this
    simpa using this

theorem setRow_app : ∀ (x y rest : List AV), x.length = y.length → setRow (x ++ rest) 0 y = y ++ rest := by
  have key : ∀ (y x pre rest : List AV), x.length = y.length → setRow (pre ++ x ++ rest) pre.length y = pre ++ y ++ rest := by
    intro y
    induction y with
    | nil => intro x pre rest h; have : x = [] := List.length_eq_zero_iff.1 h; subst this; simp [setRow]
    | cons a y ih =>
      intro x pre rest h
      cases x with
      | nil => cases h
      | cons b x =>
        rw [setRow]
        have := ih x (pre ++ [a]) rest (by simpa using h)
        simp only [List.length_append, List.length_cons, List.length_nil, List.append_assoc, List.cons_append, List.nil_append] at this ⊢
        rw [← this]
        congr 1
        simp
  intro x y rest h
  simpa using key y x [] rest h

theorem flatP_get (l : List Pr) : ∀ (j : Nat), j < l.length * 2 → ∃ s, (l.flatMap pRow)[j]? = some (.str s) ∧ (encP (l.toArray[j / 2]!))[j % 2]! = .string ⟨s.toArray⟩ := by
  induction l with
  | nil => intro j h; simp at h
  | cons x l ih =>
    intro j h
    match j with
    | 0 => exact ⟨x.1, rfl, rfl⟩
    | 1 => exact ⟨x.2, rfl, rfl⟩
    | j + 2 =>
      obtain ⟨s, h1, h2⟩ := ih j (by simp at h; omega)
      refine ⟨s, by simpa [pRow] using h1, ?_⟩
      have e1 : (j + 2) / 2 = j / 2 + 1 := by omega
      have e2 : (j + 2) % 2 = j % 2 := by omega
      rw [e1, e2, ← h2]
      simp

theorem length_flatP (l : List Pr) : (l.flatMap pRow).length = l.length * 2 := by
  induction l with
  | nil => rfl
  | cons x l ih => simp [pRow, ih]; omega

theorem sort_acalls {f g : FuncId} (ef : ∀ args w, (callFunc f args).run P w = .ok (.enter f args) w)
    (hs : ∀ (blk cap : Nat) (d : Array Pr) (w : World), HoldsK encP 2 w blk 0 d → blk < w.heap.size → d.size < 4611686018427387904 →
      Calls P f #[.slice (some ⟨blk, 0, none⟩) d.size cap, .func (.func g) #[] #[]] w fun e w' => e = .returned (.tuple #[]) ∧ ∃ n os, w' = sortWorldK encP 2 w blk 0 n (sortP d) os)
    (hz : ∀ d : Array Pr, (sortP d).size = d.size)
    {l : List Pr} (hl : l.length < 4611686018427387904) {rest : List AV} {id : Nat} {room : Bool} {T : TypeId} (hid : H[id]? = some (.cells (l.flatMap pRow ++ rest) T)) :
    ACalls P G f [.rslice id 0 l.length 2 room, .fn (.func g) [] []] H fun r H' => r = .ret (.tuple []) ∧ H' = H.set id (.cells ((sortL l).flatMap pRow ++ rest) T) := by
  intro K w cargs hg hi hv
  obtain ⟨c, d, rfl, hc, hd⟩ := two_args hv
  cases hc with
  | rslice _ _ _ _ _ b cap hb hcap hro =>
  cases hd with
  | fn _ _ _ vs us h1 h2 hv1 hu1 =>
  obtain rfl : vs = #[] := Array.eq_empty_of_size_eq_zero h1.symm
  obtain rfl : us = #[] := Array.eq_empty_of_size_eq_zero h2.symm
  obtain ⟨b', vs, T', g1, g2, g3, g4, g5, g6, g7, g8, g9⟩ := hi.obj id _ hid
  rw [hb] at g1; cases g1
  have hlen : l.length * 2 ≤ vs.size := by
    rw [List.length_append, length_flatP] at g4; omega
  have hH : HoldsK encP 2 w b 0 l.toArray := by
    intro j hj
    rw [size_flatK] at hj
    simp only [List.size_toArray] at hj
    obtain ⟨s, e1, e2⟩ := flatP_get l j hj
    have hav := g5 j (.str s) (by rw [List.getElem?_append_left (by rw [length_flatP]; exact hj)]; exact e1)
    have hlt : j < vs.size := by omega
    refine ⟨?_, by simp [World.frozen?, g3]⟩
    rw [Nat.zero_add, cell_of_heap g3, Array.getElem?_eq_getElem hlt]
    rw [get_flatK _ _ _ _ (by simpa using hj), e2]
    have hgd : vs.getD j undef = vs[j] := by simp [Array.getD, hlt]
    rw [hgd] at hav
    generalize vs[j] = v at hav
    cases hav
    rfl
  have hblk : b < w.heap.size := (Array.getElem?_eq_some_iff.1 g3).1
  have hc := hs b cap l.toArray w hH hblk (by simpa using hl)
  simp only [List.size_toArray] at hc
  refine .inl ⟨ef _ _, hc.mono ?_⟩
  rintro e w' ⟨rfl, n, os, rfl⟩
  have hz' : (sortP l.toArray).size = l.length := by simpa using hz l.toArray
  have hsl : (sortL l).length = l.length := by simpa [sortL] using hz'
  refine ⟨K, .ret (.tuple []), _, .refl K, (.tuple [] #[] rfl (by simp) : V K _ _), ?_, rfl, rfl⟩
  have e1 : putRowK encP 2 (Sort.ahead w n) b 0 (sortP l.toArray) = (w.drewN n).setCells b 0 (flatK encP 2 (sortP l.toArray)).toList := by
    have := putRow_eq_setCells (fun v : Value => v) w b 0 (flatK encP 2 l.toArray) (flatK encP 2 (sortP l.toArray)).toList n hH (by simp [hz'])
    simp only [Array.toArray_toList, List.map_id_fun, List.map_id] at this
    refine Eq.trans ?_ (this.trans ?_)
    · rfl
    · congr 1; exact List.map_id _
  unfold sortWorldK
  rw [e1]
  refine Inv.grow ?_ os
  have hi2 := hi.drewN n
  have := Inv.stores hb ((sortL l).flatMap pRow) (flatK encP 2 (sortP l.toArray)).toList 0 H (w.drewN n) (l.flatMap pRow ++ rest) T hi2 hid (by rw [length_flatP, hsl]; simp [hz']) (by rw [length_flatP, hsl, List.length_append, length_flatP]; omega) (fun j av hj => by
    have hj2 : j < (sortL l).length * 2 := by rw [← length_flatP]; exact (List.getElem?_eq_some_iff.1 hj).1
    obtain ⟨s, k1, k2⟩ := flatP_get (sortL l) j hj2
    rw [hj] at k1; cases k1
    refine ⟨.string ⟨s.toArray⟩, ?_, .str s⟩
    have hj3 : j < (sortP l.toArray).size * 2 := by rw [hz', ← hsl]; exact hj2
    have : (flatK encP 2 (sortP l.toArray))[j]! = .string ⟨s.toArray⟩ := by
      rw [get_flatK _ _ _ _ hj3, ← k2]; simp [sortL]
    rw [Array.getElem?_toList, ← this, getElem!_def]
    have hj4 : j < (flatK encP 2 (sortP l.toArray)).size := by rw [size_flatK]; exact hj3
    rw [Array.getElem?_eq_getElem hj4])
  rwa [setRow_app _ _ _ (by rw [length_flatP, length_flatP, hsl])] at this

end
end Go.Am
end

section
set_option linter.unusedSimpArgs false
set_option linter.unusedVariables false
namespace Go.Am
open Go.RowKit Go.Sort Go.Proofs Go.Lib

/-! The sort of features -/
def toP (x : Feat) : Pr := (x.name, x.value)
def ofP (p : Pr) : Feat := ⟨p.1, p.2⟩
def srtF (l : List Feat) : List Feat := (sortL (l.map toP)).map ofP
theorem rows_to (l : List Feat) : rowsF l = (l.map toP).flatMap pRow := by
  unfold rowsF
  induction l with
  | nil => rfl
  | cons x l ih => rw [List.map_cons, List.flatten_cons, ih]; rfl
theorem rows_of (l : List Pr) : rowsF (l.map ofP) = l.flatMap pRow := by
  rw [rows_to, List.map_map]
  congr 1
  exact List.map_id l
theorem cmp_lt : ∀ x y : List UInt8, decide (Lib.compareBytes x y < 0) = Op.bytesLess x y
  | [], [] => rfl
  | [], _ :: _ => rfl
  | _ :: _, [] => rfl
  | a :: x, b :: y => by
    rw [Lib.compareBytes, Op.bytesLess]
    by_cases h1 : a < b
    · simp [h1]
    · by_cases h2 : b < a
      · have : ¬ a = b := fun e => by subst e; exact h1 h2
        simp [h1, h2, this]
      · have : a = b := UInt8.le_antisymm (UInt8.not_lt.1 h2) (UInt8.not_lt.1 h1)
        subst this
        simp [h1, cmp_lt x y]
theorem lt_eq (x y : Pr) : ltOf cmpP x y = Op.bytesLess x.1 y.1 := cmp_lt x.1 y.1
theorem swoP : SWO (ltOf cmpP) where
  irrefl x := by rw [lt_eq]; exact bl_irr _
  trans x y z h1 h2 := by rw [lt_eq] at *; exact bl_trans h1 h2
  ntrans x y z h1 h2 := by
    rw [lt_eq] at *
    cases h3 : Op.bytesLess x.1 z.1 with
    | false => rfl
    | true =>
      cases h4 : Op.bytesLess y.1 x.1 with
      | true => rw [bl_trans h4 h3] at h2; cases h2
      | false => rw [bl_tri h1 h4] at h3; rw [h3] at h2; cases h2
theorem sort_facts (d : Array Pr) : PermIn 0 d.size d (sortP d) ∧ SortedIn (ltOf cmpP) 0 d.size (sortP d) :=
  pdq_sorts (ltOf cmpP) swoP d 0 d.size (Lib.bitLen d.size) true true (Nat.zero_le _) (Nat.le_refl _) (Or.inl rfl)
theorem sort_size (d : Array Pr) : (sortP d).size = d.size := (sort_facts d).1.1
theorem srt_ok : Srt srtF := by
  constructor
  · intro l
    have h := (sort_facts (l.map toP).toArray).1.2.2
    have hs := sort_size (l.map toP).toArray
    have e1 : (sortP (l.map toP).toArray).extract 0 (l.map toP).toArray.size = sortP (l.map toP).toArray := by rw [← hs]; exact Array.extract_size
    have e2 : (l.map toP).toArray.extract 0 (l.map toP).toArray.size = (l.map toP).toArray := Array.extract_size
    rw [e1, e2] at h
    have h2 := h.map ofP
    have e3 : (l.map toP).map ofP = l := by rw [List.map_map]; exact List.map_id l
    rwa [e3] at h2
  · intro l
    have h := (sort_facts (l.map toP).toArray).2
    have hs := sort_size (l.map toP).toArray
    unfold Wek srtF sortL
    rw [List.pairwise_iff_getElem]
    intro i j hi hj hij
    simp only [List.length_map, Array.length_toList] at hi hj
    have := h i j (Nat.zero_le _) hij (by rw [← hs]; exact hj)
    rw [lt_eq] at this
    simp only [List.getElem_map, Array.getElem_toList]
    rw [getElem!_pos _ i hi, getElem!_pos _ j hj] at this
    exact this

/-- What is read of cells as pairs of strings. -/
def decP : List AV → Option (List Pr)
  | [] => some []
  | .str a :: .str b :: r => match decP r with
    | some l => some ((a, b) :: l)
    | none => none
  | _ => none
theorem decP_rows : ∀ l : List Pr, decP (l.flatMap pRow) = some l
  | [] => rfl
  | x :: l => by
    show decP (.str x.1 :: .str x.2 :: l.flatMap pRow) = _
    rw [decP, decP_rows l]
theorem decP_ok : ∀ {cs : List AV} {l : List Pr}, decP cs = some l → cs = l.flatMap pRow
  | [], l, h => by cases h; rfl
  | .str a :: .str b :: r, l, h => by
    rw [decP] at h
    split at h
    · rename_i l' h'
      cases h
      rw [decP_ok h']; rfl
    · cases h
/-- The sort, as a function without a text. -/
def sorc (fS gU : FuncId) (f : FuncId) (args : List AV) (H : List AObj) : Option Out :=
  match args with
  | [.rslice id 0 n 2 true, .fn (.func g) [] []] => bif Nat.beq f fS && Nat.beq g gU then (match H[id]? with
      | some (.cells cs T) => match decP cs with
        | some l => bif Nat.beq l.length n && Nat.ble n 4000000000 then some (.ret (.tuple []), H.set id (.cells ((sortL l).flatMap pRow) T)) else none
        | none => none
      | _ => none) else none
  | [.slice .full 2 [], .fn (.func g) [] []] => bif Nat.beq f fS && Nat.beq g gU then some (.ret (.tuple []), H) else none
  | _ => none
theorem sorc_ok {P : Program} {G : Nat → Option (List AV)} {fS gU : FuncId} (ef : ∀ args w, (callFunc fS args).run P w = .ok (.enter fS args) w)
    (hs : ∀ (blk cap : Nat) (d : Array Pr) (w : World), HoldsK encP 2 w blk 0 d → blk < w.heap.size → d.size < 4611686018427387904 →
      Calls P fS #[.slice (some ⟨blk, 0, none⟩) d.size cap, .func (.func gU) #[] #[]] w fun e w' => e = .returned (.tuple #[]) ∧ ∃ n os, w' = sortWorldK encP 2 w blk 0 n (sortP d) os)
    (h0 : ∀ (p : Option Addr) (cap : Nat) (fv : Value) (w : World), Calls P fS #[.slice p 0 cap, fv] w fun e w' => e = .returned (.tuple #[]) ∧ w' = w)
    {f : FuncId} {args : List AV} {H H' : List AObj} {r : ARes} (h : sorc fS gU f args H = some (r, H')) : ACalls P G f args H fun r2 H2 => r2 = r ∧ H2 = H' := by
  unfold sorc at h
  split at h
  · rename_i id n g
    cases hb : (Nat.beq f fS && Nat.beq g gU) with
    | false => rw [hb] at h; cases h
    | true =>
      rw [hb, cond_true] at h
      simp only [Bool.and_eq_true] at hb
      obtain rfl := Nat.eq_of_beq_eq_true hb.1
      obtain rfl := Nat.eq_of_beq_eq_true hb.2
      split at h <;> try (cases h; done)
      rename_i cs T hx
      split at h <;> try (cases h; done)
      rename_i l hl
      cases hc : (Nat.beq l.length n && Nat.ble n 4000000000) with
      | false => rw [hc] at h; cases h
      | true =>
        rw [hc, cond_true] at h
        simp only [Bool.and_eq_true] at hc
        obtain rfl := Nat.eq_of_beq_eq_true hc.1
        have hle := Nat.le_of_ble_eq_true hc.2
        cases h
        obtain rfl := decP_ok hl
        have := sort_acalls (P := P) (G := G) ef hs sort_size (l := l) (by omega) (rest := []) (H := H) (id := id) (room := true) (T := T) (by rw [List.append_nil]; exact hx)
        simpa using this
  · rename_i g
    cases hb : (Nat.beq f fS && Nat.beq g gU) with
    | false => rw [hb] at h; cases h
    | true =>
      rw [hb, cond_true] at h
      simp only [Bool.and_eq_true] at hb
      obtain rfl := Nat.eq_of_beq_eq_true hb.1
      cases h
      intro K w cargs hg hi hv
      obtain ⟨c, d, rfl, hc, hd⟩ := two_args hv
      obtain ⟨p, rfl⟩ : ∃ p, c = .slice p 0 0 := by
        cases hc with
        | slice0 _ _ a _ => exact ⟨a, rfl⟩
        | slice _ _ _ b o cap vs hl him hvv hcap ht => exact ⟨_, by have : cap = 0 := ht; rw [this]; rfl⟩
      refine .inl ⟨ef _ _, (h0 p 0 d w).mono ?_⟩
      rintro e w' ⟨rfl, rfl⟩
      exact ⟨K, .ret (.tuple []), H, .refl K, (.tuple [] #[] rfl (by simp) : V K _ _), hi, rfl, rfl⟩
  · cases h

end Go.Am
end

section
set_option linter.unusedSimpArgs false
set_option linter.unusedVariables false
set_option maxRecDepth 100000
set_option maxHeartbeats 4000000
namespace Go.Am
open Go.RowKit
attribute [local congr] dsel_congr sel_c1 slc_cong gsel_congr go_congr aft_congr aftD_congr condR_congr backR_congr inR_congr at2_congr
variable {E : REnv} (M : Mach cdec E)

/-! Lists of features -/
def incW (v : AV) (b : List Feat) : Nat → Feat → Option AV := fun i x => sel (prevIs b (fun g => !Op.bytesLess g.name x.name) i) (some v) none
theorem incW_first (v : AV) (b : List Feat) : ∀ (l : List Feat) (i : Nat) (f : Feat), b[i]? = some f → b.drop (i + 1) = l → firstE (incW v b) (i + 1) l = sel (incrFrom f l) none (some v)
  | [], i, f, _, _ => rfl
  | x :: l, i, f, h, hd => by
    have h2 : b[i + 1]? = some x := by
      have := List.getElem?_drop (xs := b) (i := i + 1) (j := 0)
      rw [hd] at this; simpa using this.symm
    have hd2 : b.drop (i + 1 + 1) = l := by
      have : (b.drop (i + 1)).drop 1 = l := by rw [hd]; rfl
      rwa [List.drop_drop] at this
    rw [firstE_cons, incW_first v b l (i + 1) x h2 hd2, incW, prevIs_succ h, incrFrom]
    cases Op.bytesLess f.name x.name <;> cases incrFrom x l <;> rfl
theorem incW_first0 (v : AV) (b : List Feat) (H : List AObj) (x : Option Out) : orE (firstE (incW v b) 1 (b.drop 1)) H x = sel (incr b) x (some (.ret v, H)) := by
  cases b with
  | nil => rfl
  | cons f l =>
    rw [show List.drop 1 (f :: l) = l from rfl, incW_first v (f :: l) l 0 f rfl rfl, incr]
    cases incrFrom f l <;> rfl
theorem inl {H H0 : List AObj} {b : Sl Feat} (hb : b.l.length ≤ maxL) (hc : CutOk H0 H) (k : List Fra) : ∀ (n i : Nat) (h1 : 1 ≤ i) (He : List AObj), (b.l).length - i = n →
    M.go a_morph_increasing H0 (.c l_morph_increasing_0 :: .lp ⟨(some [0, 3]), [], false⟩ l_morph_increasing_0 He :: .blk 0 :: .c (.lv []) :: k) (kv [(0, .slice b.tag 2 (b.l.map Feat.row)), (3, .int .i64 i)]) H =
      orE (firstE (incW (.bool false) b.l) i (b.l.drop i)) (H.take H0.length) (M.go a_morph_increasing H0 k .leaf H)
  | 0, i, h1, He, h => by
    have e : ¬ i < (b.l).length := by omega
    have e2 : (b.l).drop i = [] := List.drop_of_length_le (by omega)
    rw [go_head M l_morph_increasing_0.eq_1]
    simp (maxSteps := 3000000) (maxDischargeDepth := 6) +contextual -implicitDefEqProofs only [amA M, amB, ↓slc_true, ↓slc_false, ↓slc_not, ↓fget_at, Nat.reduceBEq, Nat.reduceAdd, env, fargs, q_morph_increasing, e, e2]
  | n + 1, i, h1, He, h => by
    have hi : i < (b.l).length := by omega
    have hx : (b.l)[i]? = some (b.l)[i] := List.getElem?_eq_getElem hi
    have hd : ((b.l).drop i) = (b.l)[i] :: (b.l).drop (i + 1) := List.drop_eq_getElem_cons hi
    have hm : (b.l)[i] ∈ (b.l) := List.getElem_mem hi
    have ih := fun h1 He => inl (H := H) (H0 := H0) (b := b) (hb := hb) hc k n (i + 1) h1 He (by omega)
    simp only [kv_cons, kv_nil] at ih
    have ih := ih (by omega)
    cases i with
    | zero => omega
    | succ i =>
      have hx1 : b.l[i]? = some b.l[i] := List.getElem?_eq_getElem (by omega)
      rw [go_head M l_morph_increasing_0.eq_1]
      simp (maxSteps := 3000000) (maxDischargeDepth := 6) +contextual -implicitDefEqProofs only [amA M, amB, ↓slc_true, ↓slc_false, ↓slc_not, ↓fget_at, Nat.reduceBEq, Nat.reduceAdd, env, fargs, q_morph_increasing, hx, hd, hi, ih, qFeat, hx1, ias_row hi, ias_row (show i < b.l.length by omega), wrap_p (show i + 1 ≤ maxL by omega), wrap_s hi hb, incW, prevIs_succ hx1, hc]
theorem run_increasing (hU : UniE E) {b : Sl Feat} (hb : b.l.length ≤ maxL) (H : List AObj) : M.run f_morph_increasing [.slice b.tag 2 (b.l.map Feat.row)] H = some (.ret (.bool (incr b.l)), H) := by
  rw [run_c M hU.morph_increasing rfl (c := c_morph_increasing) rfl, c_morph_increasing]
  have h1 := fun k He => inl M hb (cut_refl H) k (b.l.length - 1) 1 (by omega) He rfl
  simp only [kv_cons, kv_nil, (show ((1 : Nat) : Int) = 1 from rfl), incW_first0] at h1
  simp (maxSteps := 3000000) (maxDischargeDepth := 6) +contextual -implicitDefEqProofs only [amA M, amB, ↓slc_true, ↓slc_false, ↓slc_not, ↓fget_at, Nat.reduceBEq, Nat.reduceAdd, env, fargs, q_morph_increasing, h1]

/-! Compact, Concat, the union -/
theorem cpR_eq {H0 : List AObj} {k : List Fra} {id : Nat} {T : TypeId} {rest : List AV} {H : List AObj} {l : List Feat} (hx : H[id]? = some (.cells (rowsF l ++ rest) T))
    (hk : M.go a_slices_Compact_api_Feat_api_Feat H0 k (kv [(0, .rslice id 0 l.length 2 true)]) H = some (.ret (.rslice id 0 l.length 2 true), H.take H0.length)) :
    ∀ (t out : List Feat) (p : Feat), l = out ++ p :: t → cpR M H0 k id T rest H l.length out p t = some (.ret (.rslice id 0 (out ++ p :: ddF p t).length 2 true), (H.set id (.cells (rowsF (out ++ p :: ddF p t) ++ (zerosF (l.length - (out ++ p :: ddF p t).length) ++ rest)) T)).take H0.length)
  | [], out, p, hl => by
    rw [cpR, hk, ddF, ← hl, Nat.sub_self, show zerosF 0 = [] from rfl, List.nil_append, set_same hx]
  | q :: t, out, p, hl => by
    rw [cpR, ddF]
    split
    · rfl
    · have := cpR_eq hx hk t (out ++ [p]) q (by rw [hl]; simp)
      rw [this]
      simp only [List.append_assoc, List.cons_append, List.nil_append]
theorem run_Compact (hU : UniE E) {l : List Feat} (h0 : 0 < l.length) (hn : l.length ≤ 4000000000) {H : List AObj} {id : Nat} {T : TypeId} {rest : List AV} (hr : ∀ c ∈ rest, Wk H.length c c) (hx : H[id]? = some (.cells (rowsF l ++ rest) T)) :
    M.run f_slices_Compact_api_Feat_api_Feat [.rslice id 0 l.length 2 true] H = some (.ret (.rslice id 0 (compL l).length 2 true), H.set id (.cells (rowsF (compL l) ++ (zerosF (l.length - (compL l).length) ++ rest)) T)) := by
  have hid : id < H.length := (List.getElem?_eq_some_iff.1 hx).1
  have hw : ∀ n, handV cdec .drop H H (.rslice id 0 n 2 true) = some (.rslice id 0 n 2 true, H.take H.length) := fun n => handV_drop (cut_refl H) (wk_rslice hid)
  match l, h0, hn, hx with
  | [x], _, _, hx =>
    rw [run_c M hU.slices_Compact_api_Feat_api_Feat rfl (c := c_slices_Compact_api_Feat_api_Feat) rfl, c_slices_Compact_api_Feat_api_Feat]
    have e : compL [x] = [x] := rfl
    have hs : H.set id (.cells (rowsF [x] ++ (zerosF ([x].length - [x].length) ++ rest)) T) = H := by rw [Nat.sub_self]; exact set_same hx
    rw [e, hs]
    simp (maxSteps := 3000000) (maxDischargeDepth := 6) +contextual -implicitDefEqProofs only [amA M, amB, ↓slc_true, ↓slc_false, ↓slc_not, ↓fget_at, Nat.reduceBEq, Nat.reduceAdd, env, fargs, q_slices_Compact_api_Feat_api_Feat, rlen, hw, (show decide ([x].length < 2) = true from rfl), (show decide ((([x].length : Nat) : Int) < 2) = true from rfl)]
  | x :: y :: t, _, hn, hx =>
    rw [run_c M hU.slices_Compact_api_Feat_api_Feat rfl (c := c_slices_Compact_api_Feat_api_Feat) rfl, c_slices_Compact_api_Feat_api_Feat]
    generalize hl : x :: y :: t = l at *
    have d : decide ((l.length : Int) < 2) = false := decide_eq_false (by rw [← hl]; simp; omega)
    have h1 := fun k He => cpo M hU (H := H) (H0 := H) hid hid (cut_refl H) (T := T) (rest := rest) hr k (l := l) hn hx (y :: t) [] x He (by rw [← hl]; rfl)
    simp only [kv_cons, kv_nil, List.length_nil, Nat.zero_add, (show ((1 : Nat) : Int) = 1 from rfl)] at h1
    have hk : M.go a_slices_Compact_api_Feat_api_Feat H [.c (Sh.Q (Sh.O [Sh.m 60 0, Sh.m 2 60]) Sh.R)] (kv [(0, .rslice id 0 l.length 2 true)]) H = some (.ret (.rslice id 0 l.length 2 true), H.take H.length) := by
      simp only [kv_cons, kv_nil]
      simp (maxSteps := 3000000) (maxDischargeDepth := 6) +contextual -implicitDefEqProofs only [amA M, amB, ↓slc_true, ↓slc_false, ↓slc_not, ↓fget_at, Nat.reduceBEq, Nat.reduceAdd, env, fargs, q_slices_Compact_api_Feat_api_Feat, hw]
    have h2 := cpR_eq M (rest := rest) hx hk (y :: t) [] x (by rw [← hl]; rfl)
    have hc : compL l = [] ++ x :: ddF x (y :: t) := by rw [← hl]; rfl
    rw [← hc, List.take_of_length_le (by simp)] at h2
    simp (maxSteps := 3000000) (maxDischargeDepth := 6) +contextual -implicitDefEqProofs only [amA M, amB, ↓slc_true, ↓slc_false, ↓slc_not, ↓fget_at, Nat.reduceBEq, Nat.reduceAdd, env, fargs, q_slices_Compact_api_Feat_api_Feat, rlen, d, h1]
    exact h2
theorem run_Concat0 (hU : UniE E) {ta tb : Tag} (H : List AObj) :
    M.run f_slices_Concat_api_Feat_api_Feat [.slice .full 1 [[.slice ta 2 []], [.slice tb 2 []]]] H = some (.ret (.slice .full 2 []), H) := by
  rw [run_c M hU.slices_Concat_api_Feat_api_Feat rfl (c := c_slices_Concat_api_Feat_api_Feat) rfl, c_slices_Concat_api_Feat_api_Feat]
  have w1 : IntKind.i64.wrap (0 + 0) = 0 := by decide
  have w3 : IntKind.i64.wrap (0 + 1) = 1 := by decide
  have w4 : IntKind.i64.wrap (1 + 1) = 2 := by decide
  have d1 : decide ((0 : Int) < 0) = false := rfl
  have i0 : rias 1 (.slice .full 1 [[.slice ta 2 []], [.slice tb 2 []]]) (.int .i64 0) = some (.vptr 1 [[.slice ta 2 []], [.slice tb 2 []]] 0 0) := rfl
  have i1 : rias 1 (.slice .full 1 [[.slice ta 2 []], [.slice tb 2 []]]) (.int .i64 1) = some (.vptr 1 [[.slice ta 2 []], [.slice tb 2 []]] 1 0) := rfl
  have n0 : (([[.slice ta 2 []], [.slice tb 2 []]] : List (List AV)).length : Int) = 2 := rfl
  have n1 : decide ((0 : Int) < 2) = true := rfl
  have n2 : decide ((1 : Int) < 2) = true := rfl
  have n3 : decide ((2 : Int) < 2) = false := rfl
  have g0 : ([[.slice ta 2 []], [.slice tb 2 []]] : List (List AV))[0]? = some [.slice ta 2 []] := rfl
  have g1 : ([[.slice ta 2 []], [.slice tb 2 []]] : List (List AV))[1]? = some [.slice tb 2 []] := rfl
  have l0 : ∀ x : AV, rload none [x] 0 = some x := fun _ => rfl
  have e0 : (((List.length ([] : List (List AV))) : Nat) : Int) = 0 := rfl
  simp (maxSteps := 3000000) (maxDischargeDepth := 6) +contextual -implicitDefEqProofs only [amA M, amB, ↓slc_true, ↓slc_false, ↓slc_not, ↓fget_at, Nat.reduceBEq, Nat.reduceAdd, env, fargs, q_slices_Concat_api_Feat_api_Feat, n0, n1, n2, n3, g0, g1, l0, e0, go_head M l_slices_Concat_api_Feat_api_Feat_0.eq_1, go_head M l_slices_Concat_api_Feat_api_Feat_1.eq_1, w1, w3, w4, d1, i0, i1, run_Grow0 M hU, rap_empty (.inl rfl), rap_empty (.inr rfl)]

/-- What the sort comes to: a function of the list. -/
structure SortE (M : Mach cdec E) (srt : List Feat → List Feat) : Prop where
  none : ∀ H, M.run f_slices_SortFunc_api_Feat_api_Feat [.slice .full 2 [], .fn (.func f_morph_union_1) [] []] H = some (.ret (.tuple []), H)
  some : ∀ {l : List Feat} {H : List AObj} {id : Nat} {T : TypeId}, 0 < l.length → l.length ≤ 4000000000 → H[id]? = .some (.cells (rowsF l) T) →
    M.run f_slices_SortFunc_api_Feat_api_Feat [.rslice id 0 l.length 2 true, .fn (.func f_morph_union_1) [] []] H = .some (.ret (.tuple []), H.set id (.cells (rowsF (srt l)) T))
  len : ∀ l, (srt l).length = l.length
theorem chunk_rows : ∀ (l : List Feat) (rest : List AV), rchunk 2 l.length (rowsF l ++ rest) = l.map Feat.row
  | [], _ => rfl
  | x :: l, rest => by
    have e : rowsF (x :: l) ++ rest = x.row ++ (rowsF l ++ rest) := by simp [rowsF]
    rw [e, List.length_cons, rchunk]
    show x.row :: rchunk 2 l.length (rowsF l ++ rest) = _
    rw [chunk_rows l rest]; rfl
theorem set_end2 (H : List AObj) (o o' : AObj) : (H ++ [.dead, .dead, o]).set (H.length + 2) o' = H ++ [.dead, .dead, o'] := by
  rw [List.set_append_right _ _ (by omega)]; simp
theorem get_end2 (H : List AObj) (o : AObj) : (H ++ [.dead, .dead, o])[H.length + 2]? = some o := by
  rw [List.getElem?_append_right (by omega)]; simp
theorem run_union (hU : UniE E) {srt : List Feat → List Feat} (hS : SortE M srt) {a b : Sl Feat} (h : a.l.length + b.l.length ≤ 4000000000) (H : List AObj) :
    M.run f_morph_union [.slice a.tag 2 (a.l.map Feat.row), .slice b.tag 2 (b.l.map Feat.row)] H = some (.ret (.slice .any 2 ((compL (srt (a.l ++ b.l))).map Feat.row)), H) := by
  rw [run_c M hU.morph_union rfl (c := c_morph_union) rfl, c_morph_union]
  have e1 : List.map AV.strip [AV.slice a.tag 2 (a.l.map Feat.row), .slice b.tag 2 (b.l.map Feat.row)] = [.slice a.tag.strip 2 (a.l.map Feat.row), .slice b.tag.strip 2 (b.l.map Feat.row)] := by simp [strip_slice]
  have e2 : ∀ x y : AV, chunk 1 2 [x, y] = [[x], [y]] := fun _ _ => rfl
  by_cases h0 : a.l.length + b.l.length = 0
  · have ha : a.l = [] := List.length_eq_zero_iff.1 (by omega)
    have hb : b.l = [] := List.length_eq_zero_iff.1 (by omega)
    have hs : srt ([] ++ []) = [] := List.length_eq_zero_iff.1 (by rw [hS.len]; rfl)
    have hcp : M.run f_slices_Compact_api_Feat_api_Feat [.slice .full 2 []] H = some (.ret (.slice .any 2 []), H) := by
      rw [run_c M hU.slices_Compact_api_Feat_api_Feat rfl (c := c_slices_Compact_api_Feat_api_Feat) rfl, c_slices_Compact_api_Feat_api_Feat]
      simp (maxSteps := 3000000) (maxDischargeDepth := 6) +contextual -implicitDefEqProofs only [amA M, amB, ↓slc_true, ↓slc_false, ↓slc_not, ↓fget_at, Nat.reduceBEq, Nat.reduceAdd, env, fargs, q_slices_Compact_api_Feat_api_Feat, rlen, (show decide ((((List.length ([] : List (List AV))) : Nat) : Int) < 2) = true from rfl), (show decide (List.length ([] : List (List AV)) < 2) = true from rfl), rowsWk_nil]
    rw [ha, hb, hs]
    rw [ha, hb] at e1
    simp only [List.map_nil] at e1 ⊢
    simp (maxSteps := 3000000) (maxDischargeDepth := 6) +contextual -implicitDefEqProofs only [amA M, amB, ↓slc_true, ↓slc_false, ↓slc_not, ↓fget_at, Nat.reduceBEq, Nat.reduceAdd, env, fargs, q_morph_union, amG, AV.cell, Nat.reduceMul, Nat.reduceLeDiff, strip_slice, run_Concat0 M hU, hS.none, hcp]
    rw [handV_frz (v' := .slice .any 2 []) rfl (fun K K' w w' x hi hi' hk hv => by
      obtain ⟨hc1, hc2⟩ := hi.cut hi' hk (cut_refl H)
      exact ⟨_, hc2, wk_any (rowsWk_nil _) K' x (by rw [hi'.len]; exact Nat.le_refl _) hv, hc1⟩)]
    simp only [List.take_length]
    rfl
  · have hcc := fun H => run_Concat M hU (a := a.l) (b := b.l) (ta := a.tag.strip) (tb := b.tag.strip) (by omega) h H
    have hll : 0 < (a.l ++ b.l).length := by simp; omega
    have hlm : (a.l ++ b.l).length ≤ 4000000000 := by simp; omega
    have hso := hS.some (l := a.l ++ b.l) (H := H ++ [.dead, .dead, .cells (rowsF (a.l ++ b.l)) t_api_Feat]) (id := H.length + 2) (T := t_api_Feat) hll hlm (get_end2 _ _)
    rw [set_end2] at hso
    have hsl := hS.len (a.l ++ b.l)
    generalize hL : srt (a.l ++ b.l) = L at hso hsl ⊢
    have hcp := run_Compact M hU (l := L) (by omega) (by omega) (H := H ++ [.dead, .dead, .cells (rowsF L) t_api_Feat]) (id := H.length + 2) (T := t_api_Feat) (rest := []) (fun c h => by cases h) (by rw [get_end2, List.append_nil])
    rw [set_end2, hsl] at hcp
    have hfz : handV cdec .frz H (H ++ [.dead, .dead, .cells (rowsF (compL L) ++ (zerosF ((a.l ++ b.l).length - (compL L).length) ++ [])) t_api_Feat]) (.rslice (H.length + 2) 0 (compL L).length 2 true) = some (.slice .any 2 ((compL L).map Feat.row), H) := by
      rw [handV_frz_slice2 (by omega) (get_end2 _ _) (by simp) (by simp) (by rw [List.length_append, rowsF_len]; omega) (wk_feats _ _ _ (fun c hc => by
        rw [List.append_nil, zerosF_rows] at hc
        exact wk_feats _ _ [] (fun _ h => by cases h) 0 c (by simpa using hc)) 0), List.drop_zero, chunk_rows]
    simp only [List.append_nil] at hfz
    simp (maxSteps := 3000000) (maxDischargeDepth := 6) +contextual -implicitDefEqProofs only [amA M, amB, ↓slc_true, ↓slc_false, ↓slc_not, ↓fget_at, Nat.reduceBEq, Nat.reduceAdd, env, fargs, q_morph_union, amG, AV.cell, Nat.reduceMul, Nat.reduceLeDiff, strip_slice, hcc, hso, hcp, hfz]

end Go.Am
end

section
set_option linter.unusedSimpArgs false
set_option linter.unusedVariables false
set_option maxRecDepth 100000
set_option maxHeartbeats 4000000
namespace Go.Am
open Go.RowKit
attribute [local congr] dsel_congr sel_c1 slc_cong gsel_congr go_congr aft_congr aftD_congr condR_congr backR_congr inR_congr at2_congr
variable {E : REnv} (M : Mach cdec E)

theorem run_Unify (hE : ChkE E) (hU : UniE E) {srt : List Feat → List Feat} (hS : SortE M srt) {a b : Sl Feat} (h : a.l.length + b.l.length ≤ 4000000000) (H : List AObj) :
    M.run f_morph_Unify [.slice a.tag 2 (a.l.map Feat.row), .slice b.tag 2 (b.l.map Feat.row)] H = some (.ret (uniV (unifyP srt a.l b.l)), H) := by
  rw [run_c M hU.morph_Unify rfl (c := c_morph_Unify) rfl, c_morph_Unify]
  have ha : a.l.length ≤ maxL := by simp only [maxL]; omega
  have hb : b.l.length ≤ maxL := by simp only [maxL]; omega
  unfold unifyP
  cases h1 : incr a.l with
  | false =>
    simp (maxSteps := 3000000) (maxDischargeDepth := 6) +contextual -implicitDefEqProofs only [amA M, amB, ↓slc_true, ↓slc_false, ↓slc_not, ↓fget_at, Nat.reduceBEq, Nat.reduceAdd, env, fargs, q_morph_Unify, run_increasing M hU ha, h1, sel, uniV, noU, rowsWk_nil]
  | true =>
    cases h2 : incr b.l with
    | false =>
      simp (maxSteps := 3000000) (maxDischargeDepth := 6) +contextual -implicitDefEqProofs only [amA M, amB, ↓slc_true, ↓slc_false, ↓slc_not, ↓fget_at, Nat.reduceBEq, Nat.reduceAdd, env, fargs, q_morph_Unify, run_increasing M hU ha, run_increasing M hU hb, h1, h2, sel, uniV, noU, rowsWk_nil]
    | true =>
      cases h3 : clashF a.l b.l with
      | true =>
        simp (maxSteps := 3000000) (maxDischargeDepth := 6) +contextual -implicitDefEqProofs only [amA M, amB, ↓slc_true, ↓slc_false, ↓slc_not, ↓fget_at, Nat.reduceBEq, Nat.reduceAdd, env, fargs, q_morph_Unify, run_increasing M hU ha, run_increasing M hU hb, run_clash M hE ha hb, h1, h2, h3, sel, uniV, noU, rowsWk_nil]
      | false =>
        simp (maxSteps := 3000000) (maxDischargeDepth := 6) +contextual -implicitDefEqProofs only [amA M, amB, ↓slc_true, ↓slc_false, ↓slc_not, ↓fget_at, Nat.reduceBEq, Nat.reduceAdd, env, fargs, q_morph_Unify, run_increasing M hU ha, run_increasing M hU hb, run_clash M hE ha hb, run_union M hU hS h, h1, h2, h3, sel, uniV, feat_wk, implies_true]

/-! Subsumes -/
def sameF (x y : Feat) : Bool := x.name == y.name && x.value == y.value
theorem ixq {H H0 : List AObj} {v : Feat} {tg : Tag} {l : List Feat} (hs : l.length ≤ maxL) {q : Nat} {T : TypeId} (hq : H[q]? = some (.cells v.row T)) (hc : CutOk H0 H) (k : List Fra) : ∀ (n i : Nat) (He : List AObj), i + n = l.length →
    M.go a_slices_Index_api_Feat_api_Feat H0 (.c l_slices_Index_api_Feat_api_Feat_0 :: .lp ⟨(some [0, 3, 7, 8]), [], false⟩ l_slices_Index_api_Feat_api_Feat_0 He :: .blk 0 :: .c (.lv []) :: k) (kv [(0, .slice tg 2 (l.map Feat.row)), (3, .ptr q 0), (7, .int .i64 l.length), (8, .int .i64 i)]) H =
      orE (firstE (idxF fun s => sameF v s) i (l.drop i)) (H.take H0.length) (M.go a_slices_Index_api_Feat_api_Feat H0 k .leaf H)
  | 0, i, He, h => by
    have e : i = l.length := by omega
    subst e
    rw [go_head M l_slices_Index_api_Feat_api_Feat_0.eq_1]
    simp (maxSteps := 3000000) (maxDischargeDepth := 6) +contextual -implicitDefEqProofs only [amA M, amB, ↓slc_true, ↓slc_false, ↓slc_not, ↓fget_at, Nat.reduceBEq, Nat.reduceAdd, env, fargs, q_slices_Index_api_Feat_api_Feat, Nat.lt_irrefl, List.drop_length]
  | n + 1, i, He, h => by
    have hi : i < l.length := by omega
    have hx : l[i]? = some l[i] := List.getElem?_eq_getElem hi
    have hd : (l.drop i) = l[i] :: l.drop (i + 1) := List.drop_eq_getElem_cons hi
    have hm : l[i] ∈ l := List.getElem_mem hi
    have ih := fun He => ixq (H := H) (H0 := H0) (v := v) (tg := tg) (l := l) (hs := hs) (q := q) (T := T) (hq := hq) hc k n (i + 1)  He (by omega)
    simp only [kv_cons, kv_nil] at ih
    rw [go_head M l_slices_Index_api_Feat_api_Feat_0.eq_1]
    simp (maxSteps := 3000000) (maxDischargeDepth := 6) +contextual -implicitDefEqProofs only [amA M, amB, ↓slc_true, ↓slc_false, ↓slc_not, ↓fget_at, Nat.reduceBEq, Nat.reduceAdd, env, fargs, q_slices_Index_api_Feat_api_Feat, hx, hd, hi, ih, wrap_s hi hs, ias_row hi, qFeat, idxF, hc, hq, req_feat, sameF]
theorem run_ContainsQ (hU : UniE E) {v : Feat} {tg : Tag} {l : List Feat} (hs : l.length ≤ maxL) (H : List AObj) : M.run f_slices_Contains_api_Feat_api_Feat [.slice tg 2 (l.map Feat.row), .agg v.row] H = some (.ret (.bool (l.any fun s => sameF v s)), H) := by
  have h1 : ∀ H, M.run f_slices_Index_api_Feat_api_Feat [.slice tg 2 (l.map Feat.row), .agg v.row] H = some (.ret (.int .i64 (idxI (fun s => sameF v s) 0 l)), H) := fun H => by
    rw [run_c M hU.slices_Index_api_Feat_api_Feat rfl (c := c_slices_Index_api_Feat_api_Feat) rfl, c_slices_Index_api_Feat_api_Feat]
    have hl := fun k He => ixq M (H := H ++ [.cells v.row t_api_Feat]) (H0 := H) (tg := tg) (v := v) hs (q := H.length) (T := t_api_Feat) (by rw [hp_get0]; rfl) (cut_app H _) k l.length 0 He (by omega)
    simp only [kv_cons, kv_nil, Int.ofNat_zero, List.drop_zero, hp_take] at hl
    simp (maxSteps := 3000000) (maxDischargeDepth := 6) +contextual -implicitDefEqProofs only [amA M, amB, ↓slc_true, ↓slc_false, ↓slc_not, ↓fget_at, Nat.reduceBEq, Nat.reduceAdd, env, fargs, q_slices_Index_api_Feat_api_Feat, hl, qFeat]
    exact idx_first _ l 0 H
  rw [run_c M hU.slices_Contains_api_Feat_api_Feat rfl (c := c_slices_Contains_api_Feat_api_Feat) rfl, c_slices_Contains_api_Feat_api_Feat]
  simp (maxSteps := 3000000) (maxDischargeDepth := 6) +contextual -implicitDefEqProofs only [amA M, amB, ↓slc_true, ↓slc_false, ↓slc_not, ↓fget_at, Nat.reduceBEq, Nat.reduceAdd, env, fargs, q_slices_Contains_api_Feat_api_Feat, h1, idx_any, qFeat, hp_get0]
theorem run_Subsumes_1 (hU : UniE E) (f : Feat) {b : Sl Feat} (hb : b.l.length ≤ maxL) {H : List AObj} {q : Nat} {T : TypeId} (hq : H[q]? = some (.cells [.slice b.tag 2 (b.l.map Feat.row)] T)) :
    M.run f_morph_Subsumes_1 [.agg f.row, .ptr q 0] H = some (.ret (.bool (!(b.l.any fun g => sameF f g))), H) := by
  rw [run_c M hU.morph_Subsumes_1 rfl (c := c_morph_Subsumes_1) rfl, c_morph_Subsumes_1]
  simp (maxSteps := 3000000) (maxDischargeDepth := 6) +contextual -implicitDefEqProofs only [amA M, amB, ↓slc_true, ↓slc_false, ↓slc_not, ↓fget_at, Nat.reduceBEq, Nat.reduceAdd, env, fargs, q_morph_Subsumes_1, run_ContainsQ M hU hb, qFeat, hp_getl hq]
def subF (a b : List Feat) : Bool := !(a.any fun f => !(b.any fun g => sameF f g))
theorem run_Subsumes (hE : ChkE E) (hU : UniE E) {a b : Sl Feat} (ha : a.l.length ≤ maxL) (hb : b.l.length ≤ maxL) (H : List AObj) :
    M.run f_morph_Subsumes [.slice a.tag 2 (a.l.map Feat.row), .slice b.tag 2 (b.l.map Feat.row)] H = some (.ret (.bool (subF a.l b.l)), H) := by
  rw [run_c M hU.morph_Subsumes rfl (c := c_morph_Subsumes) rfl, c_morph_Subsumes]
  have hcf := run_ContainsFunc_Feat M hE.slices_IndexFunc_api_Feat_api_Feat hE.slices_ContainsFunc_api_Feat_api_Feat (g := f_morph_Subsumes_1) (fr := []) (cap := [.ptr H.length 0]) (p := fun f => !(b.l.any fun g => sameF f g)) (tg := a.tag) ha (H := H ++ [.cells [.slice b.tag 2 (b.l.map Feat.row)] t_sl_api_Feat]) (fun x _ => run_Subsumes_1 M hU x hb (T := t_sl_api_Feat) (by rw [hp_get0]; rfl))
  simp (maxSteps := 3000000) (maxDischargeDepth := 6) +contextual -implicitDefEqProofs only [amA M, amB, ↓slc_true, ↓slc_false, ↓slc_not, ↓fget_at, Nat.reduceBEq, Nat.reduceAdd, env, fargs, q_morph_Subsumes, hcf, subF]
theorem rsu0 {H H0 : List AObj} {a b : Sl Feat} (hb : b.l.length ≤ maxL) {j : Nat} (hj : j < a.l.length) (k : List Fra) : ∀ (n i : Nat) (o : Bool) (He : List AObj), i + n = (b.l).length →
    M.go a_truchmanref02_Subsumes H0 (.c l_truchmanref02_Subsumes_0 :: .lp ⟨(some [0, 1, 5, 6, 7]), [], false⟩ l_truchmanref02_Subsumes_0 He :: .blk 2 :: .c (.lv [0, 1, 5, 6]) :: k) (kv [(0, .slice a.tag 2 (a.l.map Feat.row)), (1, .slice b.tag 2 (b.l.map Feat.row)), (5, .int .i64 j), (6, .bool o), (7, .int .i64 i)]) H =
      (M.go a_truchmanref02_Subsumes H0 k (kv [(0, .slice a.tag 2 (a.l.map Feat.row)), (1, .slice b.tag 2 (b.l.map Feat.row)), (5, .int .i64 j), (6, .bool (o || (b.l.drop i).any fun g => sameF a.l[j] g))]) H)
  | 0, i, o, He, h => by
    have e : i = (b.l).length := by omega
    subst e
    rw [go_head M l_truchmanref02_Subsumes_0.eq_1]
    simp (maxSteps := 3000000) (maxDischargeDepth := 6) +contextual -implicitDefEqProofs only [amA M, amB, ↓slc_true, ↓slc_false, ↓slc_not, ↓fget_at, Nat.reduceBEq, Nat.reduceAdd, env, fargs, q_truchmanref02_Subsumes, Nat.lt_irrefl, List.drop_length, List.any_nil]
  | n + 1, i, o, He, h => by
    have hi : i < (b.l).length := by omega
    have hx : (b.l)[i]? = some (b.l)[i] := List.getElem?_eq_getElem hi
    have hd : ((b.l).drop i) = (b.l)[i] :: (b.l).drop (i + 1) := List.drop_eq_getElem_cons hi
    have hm : (b.l)[i] ∈ (b.l) := List.getElem_mem hi
    have ih := fun o He => rsu0 (H := H) (H0 := H0) (a := a) (b := b) (hb := hb) (j := j) (hj := hj) k n (i + 1) o He (by omega)
    simp only [kv_cons, kv_nil] at ih
    have hxj : a.l[j]? = some a.l[j] := List.getElem?_eq_getElem hj
    rw [go_head M l_truchmanref02_Subsumes_0.eq_1]
    simp (maxSteps := 3000000) (maxDischargeDepth := 6) +contextual -implicitDefEqProofs only [amA M, amB, ↓slc_true, ↓slc_false, ↓slc_not, ↓fget_at, Nat.reduceBEq, Nat.reduceAdd, env, fargs, q_truchmanref02_Subsumes, hx, hd, hi, ih, hxj, ias_row hj, ias_row hi, qFeat, req_feat, sameF, wrap_s hi hb, List.any_cons, Bool.or_assoc]
def subE (b : List Feat) : Nat → Feat → Option AV := fun _ f => sel (b.any fun g => sameF f g) none (some (.bool false))
theorem rsu1 {H H0 : List AObj} {a b : Sl Feat} (ha : a.l.length ≤ maxL) (hb : b.l.length ≤ maxL) (hc : CutOk H0 H) (k : List Fra) : ∀ (n i : Nat) (He : List AObj), i + n = (a.l).length →
    M.go a_truchmanref02_Subsumes H0 (.c l_truchmanref02_Subsumes_1 :: .lp ⟨(some [0, 1, 5]), [], false⟩ l_truchmanref02_Subsumes_1 He :: .blk 0 :: .c (.lv []) :: k) (kv [(0, .slice a.tag 2 (a.l.map Feat.row)), (1, .slice b.tag 2 (b.l.map Feat.row)), (5, .int .i64 i)]) H =
      orE (firstE (subE b.l) i (a.l.drop i)) (H.take H0.length) (M.go a_truchmanref02_Subsumes H0 k .leaf H)
  | 0, i, He, h => by
    have e : i = (a.l).length := by omega
    subst e
    rw [go_head M l_truchmanref02_Subsumes_1.eq_1]
    simp (maxSteps := 3000000) (maxDischargeDepth := 6) +contextual -implicitDefEqProofs only [amA M, amB, ↓slc_true, ↓slc_false, ↓slc_not, ↓fget_at, Nat.reduceBEq, Nat.reduceAdd, env, fargs, q_truchmanref02_Subsumes, Nat.lt_irrefl, List.drop_length]
  | n + 1, i, He, h => by
    have hi : i < (a.l).length := by omega
    have hx : (a.l)[i]? = some (a.l)[i] := List.getElem?_eq_getElem hi
    have hd : ((a.l).drop i) = (a.l)[i] :: (a.l).drop (i + 1) := List.drop_eq_getElem_cons hi
    have hm : (a.l)[i] ∈ (a.l) := List.getElem_mem hi
    have ih := fun He => rsu1 (H := H) (H0 := H0) (a := a) (b := b) (ha := ha) (hb := hb) hc k n (i + 1)  He (by omega)
    simp only [kv_cons, kv_nil] at ih
    have h0 := fun k He => rsu0 M (H := H) (H0 := H0) (a := a) (b := b) hb hi k b.l.length 0 false He (by omega)
    simp only [kv_cons, kv_nil, Int.ofNat_zero, List.drop_zero, Bool.false_or] at h0
    rw [go_head M l_truchmanref02_Subsumes_1.eq_1]
    simp (maxSteps := 3000000) (maxDischargeDepth := 6) +contextual -implicitDefEqProofs only [amA M, amB, ↓slc_true, ↓slc_false, ↓slc_not, ↓fget_at, Nat.reduceBEq, Nat.reduceAdd, env, fargs, q_truchmanref02_Subsumes, hx, hd, hi, ih, h0, wrap_s hi ha, hc, subE]
theorem sub_first (b : List Feat) (H : List AObj) (x : Option Out) : ∀ (a : List Feat) (i : Nat), orE (firstE (subE b) i a) H x = sel (subF a b) x (some (.ret (.bool false), H))
  | [], _ => rfl
  | f :: a, i => by
    rw [firstE_cons, orE_orO, sub_first b H x a, subE, orE_sel, orE_none, orE_some]
    simp only [subF, List.any_cons]
    cases (b.any fun g => sameF f g) <;> simp [sel]
theorem run_rSubsumes (hU : UniE E) {a b : Sl Feat} (ha : a.l.length ≤ maxL) (hb : b.l.length ≤ maxL) (H : List AObj) :
    M.run f_truchmanref02_Subsumes [.slice a.tag 2 (a.l.map Feat.row), .slice b.tag 2 (b.l.map Feat.row)] H = some (.ret (.bool (subF a.l b.l)), H) := by
  rw [run_c M hU.truchmanref02_Subsumes rfl (c := c_truchmanref02_Subsumes) rfl, c_truchmanref02_Subsumes]
  have h1 := fun k He => rsu1 M ha hb (cut_refl H) k a.l.length 0 He (by omega)
  simp only [kv_cons, kv_nil, Int.ofNat_zero, List.drop_zero, sub_first] at h1
  simp (maxSteps := 3000000) (maxDischargeDepth := 6) +contextual -implicitDefEqProofs only [amA M, amB, ↓slc_true, ↓slc_false, ↓slc_not, ↓fget_at, Nat.reduceBEq, Nat.reduceAdd, env, fargs, q_truchmanref02_Subsumes, h1]
theorem smf {H H0 : List AObj} {l : List Feat} {ta tb : Tag} (hl : l.length ≤ maxL) (k : List Fra) : ∀ (n i : Nat) (He : List AObj), i + n = l.length →
    M.go a_truchmanlaw02_SameFeats H0 (.c l_truchmanlaw02_SameFeats_0 :: .lp ⟨(some [0, 1, 5]), [], false⟩ l_truchmanlaw02_SameFeats_0 He :: .blk 0 :: .c (.lv []) :: k) (kv [(0, .slice ta 2 (l.map Feat.row)), (1, .slice tb 2 (l.map Feat.row)), (5, .int .i64 i)]) H =
      (M.go a_truchmanlaw02_SameFeats H0 k .leaf H)
  | 0, i, He, h => by
    have e : i = l.length := by omega
    subst e
    rw [go_head M l_truchmanlaw02_SameFeats_0.eq_1]
    simp (maxSteps := 3000000) (maxDischargeDepth := 6) +contextual -implicitDefEqProofs only [amA M, amB, ↓slc_true, ↓slc_false, ↓slc_not, ↓fget_at, Nat.reduceBEq, Nat.reduceAdd, env, fargs, q_truchmanlaw02_SameFeats, Nat.lt_irrefl, List.drop_length]
  | n + 1, i, He, h => by
    have hi : i < l.length := by omega
    have hx : l[i]? = some l[i] := List.getElem?_eq_getElem hi
    have hd : (l.drop i) = l[i] :: l.drop (i + 1) := List.drop_eq_getElem_cons hi
    have hm : l[i] ∈ l := List.getElem_mem hi
    have ih := fun He => smf (H := H) (H0 := H0) (l := l) (ta := ta) (tb := tb) (hl := hl) k n (i + 1)  He (by omega)
    simp only [kv_cons, kv_nil] at ih
    rw [go_head M l_truchmanlaw02_SameFeats_0.eq_1]
    simp (maxSteps := 3000000) (maxDischargeDepth := 6) +contextual -implicitDefEqProofs only [amA M, amB, ↓slc_true, ↓slc_false, ↓slc_not, ↓fget_at, Nat.reduceBEq, Nat.reduceAdd, env, fargs, q_truchmanlaw02_SameFeats, hx, hd, hi, ih, ias_row hi, qFeat, req_feat, beq_self_eq_true, wrap_s hi hl]
theorem run_SameFeats (hU : UniE E) {l : List Feat} {ta tb : Tag} (hl : l.length ≤ maxL) (H : List AObj) : M.run f_truchmanlaw02_SameFeats [.slice ta 2 (l.map Feat.row), .slice tb 2 (l.map Feat.row)] H = some (.ret (.bool true), H) := by
  rw [run_c M hU.truchmanlaw02_SameFeats rfl (c := c_truchmanlaw02_SameFeats) rfl, c_truchmanlaw02_SameFeats]
  have h1 := fun k He => smf M (H := H) (H0 := H) (ta := ta) (tb := tb) hl k l.length 0 He (by omega)
  simp only [kv_cons, kv_nil, Int.ofNat_zero, List.drop_zero] at h1
  simp (maxSteps := 3000000) (maxDischargeDepth := 6) +contextual -implicitDefEqProofs only [amA M, amB, ↓slc_true, ↓slc_false, ↓slc_not, ↓fget_at, Nat.reduceBEq, Nat.reduceAdd, env, fargs, q_truchmanlaw02_SameFeats, h1, bne_self_eq_false, beq_self_eq_true]
theorem uniV_q (r : Option (List Feat)) : uniV r = .tuple [.slice .any 2 ((r.getD []).map Feat.row), .bool r.isSome] := by cases r <;> rfl
theorem req_bool (b : Bool) : req .bool (.bool b) (.bool b) = some true := by
  unfold req; cases b <;> rfl

end Go.Am
end

section
set_option linter.unusedSimpArgs false
set_option linter.unusedVariables false
set_option maxRecDepth 100000
set_option maxHeartbeats 4000000
namespace Go.Am
open Go.RowKit
attribute [local congr] dsel_congr sel_c1 slc_cong gsel_congr go_congr aft_congr aftD_congr condR_congr backR_congr inR_congr at2_congr
variable {E : REnv} (M : Mach cdec E)

theorem merge_len : ∀ (n : Nat) (a b m : List Feat), a.length + b.length ≤ n → mergeF a b = some m → m.length ≤ a.length + b.length
  | _, [], b, m, _, h => by
    have : mergeF [] b = some b := by cases b <;> simp [mergeF]
    rw [this] at h; cases h; simp
  | _, x :: a, [], m, _, h => by
    have : mergeF (x :: a) [] = some (x :: a) := by simp [mergeF]
    rw [this] at h; cases h; simp
  | 0, x :: a, y :: b, m, hl, _ => by simp at hl
  | n + 1, x :: a, y :: b, m, hl, h => by
    simp only [List.length_cons] at hl
    rw [mergeF] at h
    split at h
    · simp only [Option.map_eq_some_iff] at h
      obtain ⟨m', h1, rfl⟩ := h
      have := merge_len n a (y :: b) m' (by simp only [List.length_cons]; omega) h1
      simp only [List.length_cons] at this ⊢; omega
    · split at h
      · simp only [Option.map_eq_some_iff] at h
        obtain ⟨m', h1, rfl⟩ := h
        have := merge_len n (x :: a) b m' (by simp only [List.length_cons]; omega) h1
        simp only [List.length_cons] at this ⊢; omega
      · split at h
        · simp only [Option.map_eq_some_iff] at h
          obtain ⟨m', h1, rfl⟩ := h
          have := merge_len n a b m' (by omega) h1
          simp only [List.length_cons]; omega
        · cases h
theorem unify_len (a b : List Feat) : ((unifyF a b).getD []).length ≤ a.length + b.length := by
  unfold unifyF
  cases incr a <;> simp only [sel] <;> try simp
  cases incr b <;> simp only [sel] <;> try simp
  cases h : mergeF a b with
  | none => simp
  | some m => exact merge_len _ a b m (Nat.le_refl _) h
theorem run_MorphUnifies (hE : ChkE E) (hR : RefE E) (hU : UniE E) {srt : List Feat → List Feat} (hS : SortE M srt) (hP : Srt srt) (h : E.fn f_truchmanlaw02_MorphUnifies = some a_truchmanlaw02_MorphUnifies)
    {a b : Sl Feat} {n : Nat} (ha : a.ok n (Feat.ok n)) (hb : b.ok n (Feat.ok n)) {H : List AObj} (hlv : ∀ H, M.run f_truchmanlaw02_lives [] H = some (.ret (.bool true), H)) :
    M.run f_truchmanlaw02_MorphUnifies [.slice a.tag 2 (a.l.map Feat.row), .slice b.tag 2 (b.l.map Feat.row)] H = some (.ret (.bool true), H) := by
  rw [run_c M h rfl (c := c_truchmanlaw02_MorphUnifies) rfl, c_truchmanlaw02_MorphUnifies]
  by_cases h1 : a.l.length > 100
  · have d1 : decide (a.l.length > 100) = true := decide_eq_true h1
    have d1' : decide ((a.l.length : Int) > 100) = true := decide_eq_true (by omega)
    simp (maxSteps := 3000000) (maxDischargeDepth := 6) +contextual -implicitDefEqProofs only [amA M, amB, ↓slc_true, ↓slc_false, ↓slc_not, ↓fget_at, Nat.reduceBEq, Nat.reduceAdd, env, fargs, q_truchmanlaw02_MorphUnifies, hlv, d1, d1', rlen]
  · have d1 : decide (a.l.length > 100) = false := decide_eq_false h1
    have d1' : decide ((a.l.length : Int) > 100) = false := decide_eq_false (by omega)
    by_cases h2 : b.l.length > 100
    · have d2 : decide (b.l.length > 100) = true := decide_eq_true h2
      have d2' : decide ((b.l.length : Int) > 100) = true := decide_eq_true (by omega)
      simp (maxSteps := 3000000) (maxDischargeDepth := 6) +contextual -implicitDefEqProofs only [amA M, amB, ↓slc_true, ↓slc_false, ↓slc_not, ↓fget_at, Nat.reduceBEq, Nat.reduceAdd, env, fargs, q_truchmanlaw02_MorphUnifies, hlv, d1, d2, d1', d2', rlen]
    · have d2 : decide (b.l.length > 100) = false := decide_eq_false h2
      have d2' : decide ((b.l.length : Int) > 100) = false := decide_eq_false (by omega)
      have hu := unify_len a.l b.l
      have hsm := fun H => run_SameFeats M hU (l := (unifyF a.l b.l).getD []) (ta := .any) (tb := .any) (by simp only [maxL]; omega) H
      simp (maxSteps := 3000000) (maxDischargeDepth := 6) +contextual -implicitDefEqProofs only [amA M, amB, ↓slc_true, ↓slc_false, ↓slc_not, ↓fget_at, Nat.reduceBEq, Nat.reduceAdd, env, fargs, q_truchmanlaw02_MorphUnifies, hlv, d1, d2, d1', d2', rlen, run_Unify M hE hU hS (a := a) (b := b) (by omega), run_rUnify M hR (a := a) (b := b) (by omega), unify_eq hP, uniV_q, hsm, req_bool, run_Subsumes M hE hU ha.len hb.len, run_rSubsumes M hU ha.len hb.len]

end Go.Am
end

section
set_option linter.unusedSimpArgs false
set_option linter.unusedVariables false
set_option maxRecDepth 100000
set_option maxHeartbeats 4000000
namespace Go.Am
open Go.RowKit
attribute [local congr] dsel_congr sel_c1 slc_cong gsel_congr go_congr aft_congr aftD_congr condR_congr backR_congr inR_congr at2_congr
variable {E : REnv} (M : Mach cdec E)

/-! Plain laws: unifying in any order -/
theorem clash_iff (a b : List Feat) : clashF a b = true ↔ ∃ x ∈ a, ∃ y ∈ b, clashes x y = true := by
  simp only [clashF, List.any_eq_true]
theorem clashes_comm (x y : Feat) : clashes x y = clashes y x := by
  unfold clashes
  rw [str_beq_comm x.name, str_beq_comm x.value]
theorem clash_comm (a b : List Feat) : clashF a b = clashF b a := by
  rw [Bool.eq_iff_iff, clash_iff, clash_iff]
  constructor
  · rintro ⟨x, hx, y, hy, h⟩; exact ⟨y, hy, x, hx, by rw [clashes_comm]; exact h⟩
  · rintro ⟨x, hx, y, hy, h⟩; exact ⟨y, hy, x, hx, by rw [clashes_comm]; exact h⟩
theorem str_incr : ∀ {l : List Feat}, Str1 l → incr l = true
  | [], _ => rfl
  | x :: l, h => by
    have key : ∀ (l : List Feat) (p : Feat), Str1 (p :: l) → incrFrom p l = true := fun l => by
      induction l with
      | nil => intro p _; rfl
      | cons y l ih =>
        intro p h
        rw [Str1, List.pairwise_cons] at h
        simp only [incrFrom, Bool.and_eq_true]
        exact ⟨h.1 y (by simp), ih y h.2⟩
    exact key l x h
/-- What unifying comes to. -/
theorem unify_some {a b m : List Feat} (h : unifyF a b = some m) : Str1 a ∧ Str1 b ∧ clashF a b = false ∧ Str1 m ∧ ∀ x, x ∈ m ↔ x ∈ a ∨ x ∈ b := by
  unfold unifyF at h
  cases ha : incr a with
  | false => rw [ha] at h; cases h
  | true =>
    cases hb : incr b with
    | false => rw [ha, hb] at h; cases h
    | true =>
      rw [ha, hb] at h
      simp only [sel] at h
      have hc := merge_clash _ a b (Nat.le_refl _) ha hb
      rw [h] at hc
      obtain ⟨g1, g2⟩ := merge_props _ a b m (Nat.le_refl _) (incr_str ha) (incr_str hb) h
      exact ⟨incr_str ha, incr_str hb, by simpa using hc, g2, g1⟩
theorem unify_of {a b : List Feat} (ha : Str1 a) (hb : Str1 b) (hc : clashF a b = false) : ∃ m, unifyF a b = some m := by
  have h := unify_clash (str_incr ha) (str_incr hb)
  rw [hc] at h
  exact Option.isSome_iff_exists.1 h
theorem unify_comm (a b : List Feat) : unifyF a b = unifyF b a := by
  have key : ∀ {a b m : List Feat}, unifyF a b = some m → unifyF b a = some m := fun {a b m} h => by
    obtain ⟨h1, h2, h3, h4, h5⟩ := unify_some h
    obtain ⟨m', h'⟩ := unify_of h2 h1 (by rw [clash_comm]; exact h3)
    obtain ⟨_, _, _, g4, g5⟩ := unify_some h'
    rw [h', str_ext g4 h4 fun x => by rw [g5, h5]; exact or_comm]
  cases h : unifyF a b with
  | some m => exact (key h).symm
  | none =>
    cases h' : unifyF b a with
    | none => rfl
    | some m => rw [key h'] at h; cases h
theorem sub_iff (a b : List Feat) : subF a b = true ↔ ∀ x ∈ a, x ∈ b := by
  constructor
  · intro h x hx
    have h1 : (a.any fun f => !(b.any fun g => sameF f g)) = false := by
      unfold subF at h; revert h; cases (a.any fun f => !(b.any fun g => sameF f g)) <;> simp
    rw [List.any_eq_false] at h1
    have h2 := h1 x hx
    have h3 : (b.any fun g => sameF x g) = true := by revert h2; cases (b.any fun g => sameF x g) <;> simp
    obtain ⟨y, hy, hxy⟩ := List.any_eq_true.1 h3
    rw [sameF_eq hxy]; exact hy
  · intro h
    have h1 : (a.any fun f => !(b.any fun g => sameF f g)) = false := by
      rw [List.any_eq_false]
      intro x hx
      have h2 : (b.any fun g => sameF x g) = true := List.any_eq_true.2 ⟨x, h x hx, sameF_self x⟩
      rw [h2]; simp
    unfold subF
    rw [h1]; rfl
theorem unify_assoc {a b c x : List Feat} (hx : unifyF a b = some x) : (unifyF b c = none → unifyF x c = none) ∧ ∀ q, unifyF b c = some q → unifyF x c = unifyF a q := by
  obtain ⟨h1, h2, h3, h4, h5⟩ := unify_some hx
  refine ⟨fun hn => ?_, fun q hq => ?_⟩
  · cases h : unifyF x c with
    | none => rfl
    | some m =>
      obtain ⟨g1, g2, g3, g4, g5⟩ := unify_some h
      obtain ⟨m', h'⟩ := unify_of h2 g2 (by
        cases hc : clashF b c with
        | false => rfl
        | true =>
          obtain ⟨u, hu, v, hv, huv⟩ := (clash_iff _ _).1 hc
          rw [(clash_iff x c).2 ⟨u, (h5 u).2 (.inr hu), v, hv, huv⟩] at g3; cases g3)
      rw [hn] at h'; cases h'
  · obtain ⟨k1, k2, k3, k4, k5⟩ := unify_some hq
    cases h : unifyF x c with
    | some m =>
      obtain ⟨g1, g2, g3, g4, g5⟩ := unify_some h
      obtain ⟨m', h'⟩ := unify_of h1 k4 (by
        cases hc : clashF a q with
        | false => rfl
        | true =>
          obtain ⟨u, hu, v, hv, huv⟩ := (clash_iff _ _).1 hc
          rcases (k5 v).1 hv with hv | hv
          · rw [(clash_iff a b).2 ⟨u, hu, v, hv, huv⟩] at h3; cases h3
          · rw [(clash_iff x c).2 ⟨u, (h5 u).2 (.inl hu), v, hv, huv⟩] at g3; cases g3)
      obtain ⟨_, _, _, j4, j5⟩ := unify_some h'
      rw [h', str_ext g4 j4 fun z => by rw [g5, j5, h5, k5]; exact or_assoc]
    | none =>
      cases h' : unifyF a q with
      | none => rfl
      | some m =>
        obtain ⟨g1, g2, g3, g4, g5⟩ := unify_some h'
        obtain ⟨m', h''⟩ := unify_of h4 k2 (by
          cases hc : clashF x c with
          | false => rfl
          | true =>
            obtain ⟨u, hu, v, hv, huv⟩ := (clash_iff _ _).1 hc
            rcases (h5 u).1 hu with hu | hu
            · rw [(clash_iff a q).2 ⟨u, hu, v, (k5 v).2 (.inr hv), huv⟩] at g3; cases g3
            · rw [(clash_iff b c).2 ⟨u, hu, v, hv, huv⟩] at k3; cases k3)
        rw [h] at h''; cases h''

theorem run_MorphOrder (hE : ChkE E) (hU : UniE E) {srt : List Feat → List Feat} (hS : SortE M srt) (hP : Srt srt) (h : E.fn f_truchmanlaw02_MorphOrder = some a_truchmanlaw02_MorphOrder)
    {a b c : Sl Feat} {n : Nat} (ha : a.ok n (Feat.ok n)) (hb : b.ok n (Feat.ok n)) (hc : c.ok n (Feat.ok n)) {H : List AObj} (hlv : ∀ H, M.run f_truchmanlaw02_lives [] H = some (.ret (.bool true), H)) :
    M.run f_truchmanlaw02_MorphOrder [.slice a.tag 2 (a.l.map Feat.row), .slice b.tag 2 (b.l.map Feat.row), .slice c.tag 2 (c.l.map Feat.row)] H = some (.ret (.bool true), H) := by
  rw [run_c M h rfl (c := c_truchmanlaw02_MorphOrder) rfl, c_truchmanlaw02_MorphOrder]
  by_cases h1 : a.l.length > 100
  · have d1 : decide (a.l.length > 100) = true := decide_eq_true h1
    have d1' : decide ((a.l.length : Int) > 100) = true := decide_eq_true (by omega)
    simp (maxSteps := 3000000) (maxDischargeDepth := 6) +contextual -implicitDefEqProofs only [amA M, amB, ↓slc_true, ↓slc_false, ↓slc_not, ↓fget_at, Nat.reduceBEq, Nat.reduceAdd, env, fargs, q_truchmanlaw02_MorphOrder, hlv, d1, d1', rlen]
  · have d1 : decide (a.l.length > 100) = false := decide_eq_false h1
    have d1' : decide ((a.l.length : Int) > 100) = false := decide_eq_false (by omega)
    by_cases h2 : b.l.length > 100
    · have d2 : decide (b.l.length > 100) = true := decide_eq_true h2
      have d2' : decide ((b.l.length : Int) > 100) = true := decide_eq_true (by omega)
      simp (maxSteps := 3000000) (maxDischargeDepth := 6) +contextual -implicitDefEqProofs only [amA M, amB, ↓slc_true, ↓slc_false, ↓slc_not, ↓fget_at, Nat.reduceBEq, Nat.reduceAdd, env, fargs, q_truchmanlaw02_MorphOrder, hlv, d1, d2, d1', d2', rlen]
    · have d2 : decide (b.l.length > 100) = false := decide_eq_false h2
      have d2' : decide ((b.l.length : Int) > 100) = false := decide_eq_false (by omega)
      by_cases h3 : c.l.length > 100
      · have d3 : decide (c.l.length > 100) = true := decide_eq_true h3
        have d3' : decide ((c.l.length : Int) > 100) = true := decide_eq_true (by omega)
        simp (maxSteps := 3000000) (maxDischargeDepth := 6) +contextual -implicitDefEqProofs only [amA M, amB, ↓slc_true, ↓slc_false, ↓slc_not, ↓fget_at, Nat.reduceBEq, Nat.reduceAdd, env, fargs, q_truchmanlaw02_MorphOrder, hlv, d1, d2, d1', d2', d3, d3', rlen]
      · have d3 : decide (c.l.length > 100) = false := decide_eq_false h3
        have d3' : decide ((c.l.length : Int) > 100) = false := decide_eq_false (by omega)
        have uab := fun H => run_Unify M hE hU hS (a := a) (b := b) (by omega) H
        have uba := fun H => run_Unify M hE hU hS (a := b) (b := a) (by omega) H
        simp only [unify_eq hP] at uab uba
        rw [← unify_comm a.l b.l] at uba
        have hxl := unify_len a.l b.l
        cases hx : unifyF a.l b.l with
        | none =>
          rw [hx] at uab uba
          have hsm := fun H => run_SameFeats M hU (l := []) (ta := .any) (tb := .any) (Nat.zero_le _) H
          simp only [List.map_nil] at hsm
          simp (maxSteps := 3000000) (maxDischargeDepth := 6) +contextual -implicitDefEqProofs only [amA M, amB, ↓slc_true, ↓slc_false, ↓slc_not, ↓fget_at, Nat.reduceBEq, Nat.reduceAdd, env, fargs, q_truchmanlaw02_MorphOrder, hlv, d1, d2, d1', d2', d3, d3', rlen, uab, uba, uniV_q, hsm, req_bool, Option.getD_none, List.length_nil, (show ((((0 : Nat)) : Int) == 0) = true from rfl), Option.isSome_none]
        | some x =>
          rw [hx] at uab uba hxl
          simp only [Option.getD_some] at hxl
          obtain ⟨k1, k2, k3, k4, k5⟩ := unify_some hx
          have hxm : x.length ≤ maxL := by simp only [maxL]; omega
          have hsx := fun H => run_SameFeats M hU (l := x) (ta := .any) (tb := .any) hxm H
          have sax := fun H => run_Subsumes M hE hU (a := a) (b := ⟨.any, x⟩) ha.len hxm H
          have sbx := fun H => run_Subsumes M hE hU (a := b) (b := ⟨.any, x⟩) hb.len hxm H
          have sac := fun H => run_Subsumes M hE hU (a := a) (b := c) ha.len hc.len H
          have sbc := fun H => run_Subsumes M hE hU (a := b) (b := c) hb.len hc.len H
          have sxc := fun H => run_Subsumes M hE hU (a := ⟨.any, x⟩) (b := c) hxm hc.len H
          have ucn := fun H => run_Unify M hE hU hS (a := c) (b := ⟨.nil, []⟩) (by simp; omega) H
          have uxc := fun H => run_Unify M hE hU hS (a := ⟨.any, x⟩) (b := c) (by simp; omega) H
          have ubc := fun H => run_Unify M hE hU hS (a := b) (b := c) (by omega) H
          simp only [unify_eq hP, List.map_nil] at ucn uxc ubc
          simp only [(sub_iff a.l x).2 fun z hz => (k5 z).2 (.inl hz), (sub_iff b.l x).2 fun z hz => (k5 z).2 (.inr hz)] at sax sbx
          have hsub : subF a.l c.l = true → subF b.l c.l = true → subF x c.l = true := fun e1 e2 => (sub_iff _ _).2 fun z hz => by
            rcases (k5 z).1 hz with hz | hz
            · exact (sub_iff _ _).1 e1 z hz
            · exact (sub_iff _ _).1 e2 z hz
          obtain ⟨as1, as2⟩ := unify_assoc (c := c.l) hx
          have hbl := unify_len b.l c.l
          have fin : ∀ sa sb sx : Bool, subF a.l c.l = sa → subF b.l c.l = sb → subF x c.l = sx → (sa = true → sb = true → sx = true) → ∀ cn : Option (List Feat), unifyF c.l [] = cn →
              M.go a_truchmanlaw02_MorphOrder H [.c c_truchmanlaw02_MorphOrder] (env [.slice a.tag 2 (a.l.map Feat.row), .slice b.tag 2 (b.l.map Feat.row), .slice c.tag 2 (c.l.map Feat.row)]) H = some (.ret (.bool true), H) := by
            intro sa sb sx e1 e2 e3 himp cn e4
            rw [e1] at sac
            rw [e2] at sbc
            rw [e3] at sxc
            rw [e4] at ucn
            rw [c_truchmanlaw02_MorphOrder]
            cases hq : unifyF b.l c.l with
            | none =>
              rw [hq] at ubc
              rw [as1 hq] at uxc
              cases sa <;> cases sb <;> cases sx <;> (first | (exact absurd (himp rfl rfl) Bool.false_ne_true) | skip) <;> cases cn <;>
              simp (maxSteps := 3000000) (maxDischargeDepth := 6) +contextual -implicitDefEqProofs only [amA M, amB, ↓slc_true, ↓slc_false, ↓slc_not, ↓fget_at, Nat.reduceBEq, Nat.reduceAdd, env, fargs, q_truchmanlaw02_MorphOrder, hlv, d1, d2, d1', d2', d3, d3', rlen, uab, uba, ucn, uxc, ubc, uniV_q, hsx, sax, sbx, sac, sbc, sxc, req_bool, Option.getD_none, Option.getD_some, Option.isSome_none, Option.isSome_some]
            | some q =>
              rw [hq] at ubc hbl
              simp only [Option.getD_some] at hbl
              rw [as2 q hq] at uxc
              have uaq := fun H => run_Unify M hE hU hS (a := a) (b := ⟨.any, q⟩) (by simp; omega) H
              simp only [unify_eq hP] at uaq
              have hrl := unify_len a.l q
              have hsr := fun H => run_SameFeats M hU (l := (unifyF a.l q).getD []) (ta := .any) (tb := .any) (by simp only [maxL]; omega) H
              cases sa <;> cases sb <;> cases sx <;> (first | (exact absurd (himp rfl rfl) Bool.false_ne_true) | skip) <;> cases cn <;>
              simp (maxSteps := 3000000) (maxDischargeDepth := 6) +contextual -implicitDefEqProofs only [amA M, amB, ↓slc_true, ↓slc_false, ↓slc_not, ↓fget_at, Nat.reduceBEq, Nat.reduceAdd, env, fargs, q_truchmanlaw02_MorphOrder, hlv, d1, d2, d1', d2', d3, d3', rlen, uab, uba, ucn, uxc, ubc, uaq, uniV_q, hsx, hsr, sax, sbx, sac, sbc, sxc, req_bool, Option.getD_none, Option.getD_some, Option.isSome_none, Option.isSome_some]
          have := fin _ _ _ rfl rfl rfl hsub _ rfl
          rw [c_truchmanlaw02_MorphOrder] at this
          exact this

end Go.Am
end

section
set_option maxRecDepth 100000
set_option linter.unusedVariables false
namespace Go.Am
open Go.RowKit Go.ChangeShapes Go.WideShapes

structure TypesOk (P : Program) : Prop where
  u_string : P.underlying t_string = some .string
  c_string : P.cellsOf t_string = 1
  f_Feat : fieldsOf P t_api_Feat = some [(0, t_string), (1, t_string)]
  c_Feat : P.cellsOf t_api_Feat = 2
  u_sl_Feat : P.underlying t_sl_api_Feat = some (.slice t_api_Feat)
  c_sl_Feat : P.cellsOf t_sl_api_Feat = 1
section
variable {P : Program} {W : World} {G : Nat → Option (List AV)}
theorem open_Feat (h : TypesOk P) : Opens P W G t_api_Feat Feat.row (Feat.ok 0) :=
  opens_struct h.f_Feat h.c_Feat (opensF_cons (opens_str h.u_string) h.c_string (opensF_cons (opens_str h.u_string) h.c_string (opensF_nil _))) (fun a => ⟨a.1, a.2.1⟩) (fun a => rfl) (fun a ha => ⟨ha.1, ha.2.1⟩)
theorem open_sl_Feat (h : TypesOk P) : Opens P W G t_sl_api_Feat (fun s : Sl Feat => [.slice s.tag 2 (s.l.map Feat.row)]) (fun s => s.ok 0 (Feat.ok 0)) :=
  opens_slice h.u_sl_Feat h.c_Feat (by decide) (fun _ => by simp only [qFeat]) (open_Feat h)
end
end Go.Am
end

section
set_option maxRecDepth 1000000
set_option linter.unusedVariables false
set_option linter.unusedSimpArgs false
namespace Go.Am
open Go.Shelf Go.RowKit Go.Lib Go.Sort Go.Proofs

def sortRen : Go.Shelf.Ren := ⟨fun | 6 => 102 | 15 => 158 | 14 => 157 | 28 => 188 | 29 => 189 | 20 => 180 | 21 => 181 | 22 => 182 | 23 => 183 | 24 => 184 | 25 => 185 | 26 => 186 | 27 => 187 | 46 => 203 | 47 => 204 | 48 => 205 | 49 => 206 | 50 => 207 | 57 => 217 | n => n, fun | 22 => 50 | 24 => 49 | 25 => 163 | 3 => 3 | 39 => 206 | 0 => 0 | 53 => 229 | 55 => 231 | 4 => 4 | 46 => 222 | 45 => 221 | 50 => 226 | 5 => 5 | 9 => 9 | 66 => 234 | 70 => 238 | 76 => 254 | 77 => 255 | n => n, fun | n => n⟩
theorem sortLay : Go.Proofs.SlLaysF0.n6 Tryz.prog sortRen where
  mixed := by kernel_rfl
  f6 := ⟨Tryz.f102.name, by kernel_rfl, Tryz.func102.trans (congrArg some (by kernel_rfl))⟩
  f14 := ⟨Tryz.f157.name, by kernel_rfl, Tryz.func157.trans (congrArg some (by kernel_rfl))⟩
  f15 := Tryz.func158.trans (congrArg some (by kernel_rfl))
  f20 := ⟨Tryz.f180.name, by kernel_rfl, Tryz.func180.trans (congrArg some (by kernel_rfl))⟩
  f21 := ⟨Tryz.f181.name, by kernel_rfl, Tryz.func181.trans (congrArg some (by kernel_rfl))⟩
  f22 := ⟨Tryz.f182.name, by kernel_rfl, Tryz.func182.trans (congrArg some (by kernel_rfl))⟩
  f23 := ⟨Tryz.f183.name, by kernel_rfl, Tryz.func183.trans (congrArg some (by kernel_rfl))⟩
  f24 := ⟨Tryz.f184.name, by kernel_rfl, Tryz.func184.trans (congrArg some (by kernel_rfl))⟩
  f25 := ⟨Tryz.f185.name, by kernel_rfl, Tryz.func185.trans (congrArg some (by kernel_rfl))⟩
  f26 := ⟨Tryz.f186.name, by kernel_rfl, Tryz.func186.trans (congrArg some (by kernel_rfl))⟩
  f27 := ⟨Tryz.f187.name, by kernel_rfl, Tryz.func187.trans (congrArg some (by kernel_rfl))⟩
  f28 := Tryz.func188.trans (congrArg some (by kernel_rfl))
  f29 := Tryz.func189.trans (congrArg some (by kernel_rfl))
  f46 := ⟨Tryz.f203.name, by kernel_rfl, Tryz.func203.trans (congrArg some (by kernel_rfl))⟩
  f47 := Tryz.func204.trans (congrArg some (by kernel_rfl))
  f48 := Tryz.func205.trans (congrArg some (by kernel_rfl))
  f49 := ⟨Tryz.f206.name, by kernel_rfl, Tryz.func206.trans (congrArg some (by kernel_rfl))⟩
  f50 := ⟨Tryz.f207.name, by kernel_rfl, Tryz.func207.trans (congrArg some (by kernel_rfl))⟩
  f57 := ⟨Tryz.f217.name, by kernel_rfl, Tryz.func217.trans (congrArg some (by kernel_rfl))⟩
  t0 := Tryz.underlying0
  a0 := Tryz.isAgg0
  z0 := Tryz.sizeOf0
  v0 := Tryz.zeroValue0
  t3 := Tryz.underlying3
  a3 := Tryz.isAgg3
  z3 := Tryz.sizeOf3
  v3 := Tryz.zeroValue3
  t4 := Tryz.underlying4
  a4 := Tryz.isAgg4
  z4 := Tryz.sizeOf4
  v4 := Tryz.zeroValue4
  t5 := Tryz.underlying5
  a5 := Tryz.isAgg5
  z5 := Tryz.sizeOf5
  v5 := Tryz.zeroValue5
  t9 := Tryz.underlying9
  a9 := Tryz.isAgg9
  z9 := Tryz.sizeOf9
  v9 := Tryz.zeroValue9
  t22 := Tryz.underlying50
  a22 := Tryz.isAgg50
  z22 := Tryz.sizeOf50
  v22 := Tryz.zeroValue50
  t25 := Tryz.underlying163
  a25 := Tryz.isAgg163
  z25 := Tryz.sizeOf163
  v25 := Tryz.zeroValue163
  t39 := Tryz.underlying206
  a39 := Tryz.isAgg206
  z39 := Tryz.sizeOf206
  v39 := Tryz.zeroValue206
  t45 := Tryz.underlying221
  a45 := Tryz.isAgg221
  z45 := Tryz.sizeOf221
  v45 := Tryz.zeroValue221
  t46 := Tryz.underlying222
  a46 := Tryz.isAgg222
  z46 := Tryz.sizeOf222
  v46 := Tryz.zeroValue222
  t50 := Tryz.underlying226
  a50 := Tryz.isAgg226
  z50 := Tryz.sizeOf226
  v50 := Tryz.zeroValue226
  t53 := Tryz.underlying229
  a53 := Tryz.isAgg229
  z53 := Tryz.sizeOf229
  v53 := Tryz.zeroValue229
  t55 := Tryz.underlying231
  a55 := Tryz.isAgg231
  z55 := Tryz.sizeOf231
  v55 := Tryz.zeroValue231
  t66 := Tryz.underlying234
  a66 := Tryz.isAgg234
  z66 := Tryz.sizeOf234
  v66 := Tryz.zeroValue234
  t70 := Tryz.underlying238
  a70 := Tryz.isAgg238
  z70 := Tryz.sizeOf238
  v70 := Tryz.zeroValue238
  t76 := Tryz.underlying254
  a76 := Tryz.isAgg254
  z76 := Tryz.sizeOf254
  v76 := Tryz.zeroValue254
  t77 := Tryz.underlying255
  a77 := Tryz.isAgg255
  z77 := Tryz.sizeOf255
  v77 := Tryz.zeroValue255

set_option maxHeartbeats 2000000 in
theorem cmp_one (a b : ByteArray) (w : World) : Calls Tryz.prog 159 #[.string a, .string b] w fun e w' => e = .returned (.int .i64 (Lib.compareBytes a.data.toList b.data.toList)) ∧ w' = w := by
  go_enter Tryz.func159, Tryz.ntmps159
  go_wp2
  rw [run_callFunc_extern Tryz.func190 (by kernel_rfl) (by kernel_rfl) (by kernel_rfl) (e := Extern.BytealgCompare.compare) (by kernel_rfl), Lib.run_compareString]
  simp only [Result.andThen]
  rw [Oper.upon_value]
  go_wp2
  go_ret
  exact ⟨rfl, rfl⟩
set_option maxHeartbeats 2000000 in
theorem cmp_two (a b : ByteArray) (w : World) : Calls Tryz.prog 104 #[.string a, .string b] w fun e w' => e = .returned (.int .i64 (Lib.compareBytes a.data.toList b.data.toList)) ∧ w' = w := by
  have hcon := fun W' => cmp_one a b W'
  generalize Lib.compareBytes a.data.toList b.data.toList = r at hcon ⊢
  go_enter Tryz.func104, Tryz.ntmps104
  go_wp2_with (go_at_call 159; refine (hcon _).mono ?_; rintro e w' ⟨rfl, rfl⟩)
  go_ret
  exact ⟨rfl, rfl⟩
set_option maxHeartbeats 2000000 in
theorem cmp_three (x y : Pr) (W : World) : Calls Tryz.prog 103 #[.agg #[.string ⟨x.1.toArray⟩, .string ⟨x.2.toArray⟩], .agg #[.string ⟨y.1.toArray⟩, .string ⟨y.2.toArray⟩]] W fun e w' => e = .returned (.int .i64 (cmpP x y)) ∧ ∃ q os', w' = Go.Sort.grow (W.drewN q) os' := by
  have hcon : ∀ W', Calls Tryz.prog 104 #[.string ⟨x.1.toArray⟩, .string ⟨y.1.toArray⟩] W' fun e w' => e = .returned (.int .i64 (cmpP x y)) ∧ w' = W' := fun W' => by
    have := cmp_two ⟨x.1.toArray⟩ ⟨y.1.toArray⟩ W'
    simpa [cmpP] using this
  generalize cmpP x y = r at hcon ⊢
  go_enter Tryz.func103, Tryz.ntmps103
  go_wp2_with (go_at_call 104; refine (hcon _).mono ?_; rintro e w' ⟨rfl, rfl⟩)
  go_ret
  exact ⟨rfl, 0, _, by rw [alloc_eq_grow, alloc_eq_grow, grow_grow]; rfl⟩
theorem cmp_lays (blk off size : Nat) (w : World) : CmpLays Tryz.prog 103 #[] encP 2 cmpP blk off size w := fun _ _ _ _ x y => cmp_three x y _
theorem sort_enters : ∀ args w, (callFunc 102 args).run Tryz.prog w = .ok (.enter 102 args) w := sortLay.f6.enters rfl
theorem sort_calls (blk cap : Nat) (d : Array Pr) (w : World) (hH : HoldsK encP 2 w blk 0 d) (hb : blk < w.heap.size) (hd : d.size < 4611686018427387904) :
    Calls Tryz.prog 102 #[.slice (some ⟨blk, 0, none⟩) d.size cap, .func (.func 103) #[] #[]] w fun e w' => e = .returned (.tuple #[]) ∧ ∃ n os, w' = sortWorldK encP 2 w blk 0 n (sortP d) os :=
  AnyQ.slices_SortFunc_eq sortLay 2 Tryz.isAgg49 Tryz.sizeOf49 encP (fun _ => rfl) (fun x v hv => by simp [encP] at hv; rcases hv with rfl | rfl <;> rfl) cmpP swoP 103 #[] blk 0 cap d w (enters_of Tryz.func103 (by kernel_rfl) rfl) (cmp_lays blk 0 d.size w) hH hb hd
theorem sort_none (p : Option Addr) (cap : Nat) (fv : Value) (w : World) : Calls Tryz.prog 102 #[.slice p 0 cap, fv] w fun e w' => e = .returned (.tuple #[]) ∧ w' = w := AnyF.slices_SortFunc_none sortLay p cap fv w

end Go.Am
end

section
set_option maxRecDepth 1000000
namespace Go.Am
open Go.RowKit Go.Proofs

def ntab (f : FuncId) : Option AFn := (bif Nat.blt f 99 then (bif Nat.blt f 54 then (bif Nat.blt f 42 then (bif Nat.blt f 18 then (bif Nat.blt f 15 then (bif Nat.blt f 5 then (bif Nat.beq f 4 then some a_truchmanlaw02_MorphUnifies else none) else (bif Nat.beq f 5 then some a_truchmanlaw02_MorphOrder else none)) else (bif Nat.blt f 16 then (bif Nat.beq f 15 then some a_morph_Unify else none) else (bif Nat.blt f 17 then (bif Nat.beq f 16 then some a_morph_Name else none) else (bif Nat.beq f 17 then some a_morph_Word else none)))) else (bif Nat.blt f 22 then (bif Nat.blt f 20 then (bif Nat.beq f 18 then some a_morph_Plain else none) else (bif Nat.blt f 21 then (bif Nat.beq f 20 then some a_truchmanref02_Unify else none) else (bif Nat.beq f 21 then some a_truchmanlaw02_SameFeats else none))) else (bif Nat.blt f 23 then (bif Nat.beq f 22 then some a_morph_Subsumes else none) else (bif Nat.blt f 33 then (bif Nat.beq f 23 then some a_truchmanref02_Subsumes else none) else (bif Nat.beq f 33 then some a_morph_Check else none))))) else (bif Nat.blt f 48 then (bif Nat.blt f 44 then (bif Nat.blt f 43 then (bif Nat.beq f 42 then some a_slices_Contains_string_string else none) else (bif Nat.beq f 43 then some a_morph_all else none)) else (bif Nat.blt f 46 then (bif Nat.beq f 44 then some a_morph_symbol else none) else (bif Nat.blt f 47 then (bif Nat.beq f 46 then some a_morph_increasing else none) else (bif Nat.beq f 47 then some a_morph_clash else none)))) else (bif Nat.blt f 51 then (bif Nat.blt f 49 then (bif Nat.beq f 48 then some a_morph_union else none) else (bif Nat.blt f 50 then (bif Nat.beq f 49 then some a_morph_Name_1 else none) else (bif Nat.beq f 50 then some a_morph_letter else none))) else (bif Nat.blt f 52 then (bif Nat.beq f 51 then some a_morph_Name_2 else none) else (bif Nat.blt f 53 then (bif Nat.beq f 52 then some a_morph_Word_1 else none) else (bif Nat.beq f 53 then some a_slices_ContainsFunc_api_Feat_api_Feat else none)))))) else (bif Nat.blt f 75 then (bif Nat.blt f 69 then (bif Nat.blt f 57 then (bif Nat.blt f 55 then (bif Nat.beq f 54 then some a_morph_Subsumes_1 else none) else (bif Nat.beq f 55 then some a_slices_Contains_api_Feat_api_Feat else none)) else (bif Nat.blt f 67 then (bif Nat.beq f 57 then some a_truchmanref02_Check else none) else (bif Nat.blt f 68 then (bif Nat.beq f 67 then some a_morph_first else none) else (bif Nat.beq f 68 then some a_morph_checker_vowels else none)))) else (bif Nat.blt f 72 then (bif Nat.blt f 70 then (bif Nat.beq f 69 then some a_morph_Check_1 else none) else (bif Nat.blt f 71 then (bif Nat.beq f 70 then some a_morph_each_api_Trait else none) else (bif Nat.beq f 71 then some a_morph_checker_trait else none))) else (bif Nat.blt f 73 then (bif Nat.beq f 72 then some a_morph_Check_2 else none) else (bif Nat.blt f 74 then (bif Nat.beq f 73 then some a_morph_each_api_Class else none) else (bif Nat.beq f 74 then some a_morph_checker_class else none))))) else (bif Nat.blt f 81 then (bif Nat.blt f 78 then (bif Nat.blt f 76 then (bif Nat.beq f 75 then some a_morph_Check_3 else none) else (bif Nat.blt f 77 then (bif Nat.beq f 76 then some a_morph_each_api_Entry else none) else (bif Nat.beq f 77 then some a_morph_checker_entry else none))) else (bif Nat.blt f 79 then (bif Nat.beq f 78 then some a_morph_Check_4 else none) else (bif Nat.blt f 80 then (bif Nat.beq f 79 then some a_morph_each_api_Spell else none) else (bif Nat.beq f 80 then some a_morph_checker_spell else none)))) else (bif Nat.blt f 89 then (bif Nat.blt f 82 then (bif Nat.beq f 81 then some a_morph_Check_5 else none) else (bif Nat.blt f 83 then (bif Nat.beq f 82 then some a_morph_each_api_Link else none) else (bif Nat.beq f 83 then some a_morph_checker_link else none))) else (bif Nat.blt f 90 then (bif Nat.beq f 89 then some a_morph_checker_bundle else none) else (bif Nat.blt f 91 then (bif Nat.beq f 90 then some a_morph_classOf else none) else (bif Nat.beq f 91 then some a_slices_Index_string_string else none))))))) else (bif Nat.blt f 137 then (bif Nat.blt f 111 then (bif Nat.blt f 105 then (bif Nat.blt f 101 then (bif Nat.blt f 100 then (bif Nat.beq f 99 then some a_morph_clash_1 else none) else (bif Nat.beq f 100 then some a_morph_clash_1_1 else none)) else (bif Nat.blt f 103 then (bif Nat.beq f 101 then some a_slices_Concat_api_Feat_api_Feat else none) else (bif Nat.blt f 104 then (bif Nat.beq f 103 then some a_morph_union_1 else none) else (bif Nat.beq f 104 then some a_strings_Compare else none)))) else (bif Nat.blt f 108 then (bif Nat.blt f 106 then (bif Nat.beq f 105 then some a_slices_Compact_api_Feat_api_Feat else none) else (bif Nat.blt f 107 then (bif Nat.beq f 106 then some a_slices_IndexFunc_api_Feat_api_Feat else none) else (bif Nat.beq f 107 then some a_slices_Index_api_Feat_api_Feat else none))) else (bif Nat.blt f 109 then (bif Nat.beq f 108 then some a_truchmanref02_of else none) else (bif Nat.blt f 110 then (bif Nat.beq f 109 then some a_truchmanref02_traits else none) else (bif Nat.beq f 110 then some a_truchmanref02_classes else none))))) else (bif Nat.blt f 131 then (bif Nat.blt f 113 then (bif Nat.blt f 112 then (bif Nat.beq f 111 then some a_truchmanref02_entries else none) else (bif Nat.beq f 112 then some a_truchmanref02_Class else none)) else (bif Nat.blt f 129 then (bif Nat.beq f 113 then some a_truchmanref02_bundle else none) else (bif Nat.blt f 130 then (bif Nat.beq f 129 then some a_slices_ContainsFunc_api_Trait_api_Trait else none) else (bif Nat.beq f 130 then some a_morph_checker_trait_1 else none)))) else (bif Nat.blt f 134 then (bif Nat.blt f 132 then (bif Nat.beq f 131 then some a_slices_ContainsFunc_api_Class_api_Class else none) else (bif Nat.blt f 133 then (bif Nat.beq f 132 then some a_morph_checker_class_1 else none) else (bif Nat.beq f 133 then some a_morph_each_api_Slot else none))) else (bif Nat.blt f 135 then (bif Nat.beq f 134 then some a_morph_checker_class_2 else none) else (bif Nat.blt f 136 then (bif Nat.beq f 135 then some a_morph_short else none) else (bif Nat.beq f 136 then some a_slices_ContainsFunc_api_Entry_api_Entry else none)))))) else (bif Nat.blt f 152 then (bif Nat.blt f 142 then (bif Nat.blt f 139 then (bif Nat.blt f 138 then (bif Nat.beq f 137 then some a_morph_checker_entry_1 else none) else (bif Nat.beq f 138 then some a_slices_ContainsFunc_api_Slot_api_Slot else none)) else (bif Nat.blt f 140 then (bif Nat.beq f 139 then some a_morph_checker_entry_2 else none) else (bif Nat.blt f 141 then (bif Nat.beq f 140 then some a_slices_ContainsFunc_api_Irregular_api_Irregular else none) else (bif Nat.beq f 141 then some a_morph_checker_entry_3 else none)))) else (bif Nat.blt f 149 then (bif Nat.blt f 147 then (bif Nat.beq f 142 then some a_morph_around else none) else (bif Nat.blt f 148 then (bif Nat.beq f 147 then some a_morph_each_api_Feat else none) else (bif Nat.beq f 148 then some a_morph_checker_bundle_1 else none))) else (bif Nat.blt f 150 then (bif Nat.beq f 149 then some a_slices_IndexFunc_api_Trait_api_Trait else none) else (bif Nat.blt f 151 then (bif Nat.beq f 150 then some a_morph_checker_bundle_1_1 else none) else (bif Nat.beq f 151 then some a_slices_IndexFunc_api_Class_api_Class else none))))) else (bif Nat.blt f 163 then (bif Nat.blt f 160 then (bif Nat.blt f 156 then (bif Nat.beq f 152 then some a_morph_classOf_1 else none) else (bif Nat.blt f 159 then (bif Nat.beq f 156 then some a_slices_Grow_api_Feat_api_Feat else none) else (bif Nat.beq f 159 then some a_internal_bytealg_CompareString else none))) else (bif Nat.blt f 161 then (bif Nat.beq f 160 then some a_truchmanref02_Letter else none) else (bif Nat.blt f 162 then (bif Nat.beq f 161 then some a_truchmanref02_Name else none) else (bif Nat.beq f 162 then some a_truchmanref02_trait else none)))) else (bif Nat.blt f 174 then (bif Nat.blt f 164 then (bif Nat.beq f 163 then some a_truchmanref02_in else none) else (bif Nat.blt f 173 then (bif Nat.beq f 164 then some a_truchmanref02_Plain else none) else (bif Nat.beq f 173 then some a_slices_IndexFunc_api_Entry_api_Entry else none))) else (bif Nat.blt f 175 then (bif Nat.beq f 174 then some a_slices_IndexFunc_api_Slot_api_Slot else none) else (bif Nat.blt f 191 then (bif Nat.beq f 175 then some a_slices_IndexFunc_api_Irregular_api_Irregular else none) else (bif Nat.beq f 191 then some a_truchmanref02_Word else none))))))))
theorem ntab_truchmanlaw02_MorphUnifies : CompOk Tryz.prog G0 4 a_truchmanlaw02_MorphUnifies := by unfold CompOk; kernel_rfl
theorem ntab_truchmanlaw02_MorphOrder : CompOk Tryz.prog G0 5 a_truchmanlaw02_MorphOrder := by unfold CompOk; kernel_rfl
theorem ntab_morph_Unify : CompOk Tryz.prog G0 15 a_morph_Unify := by unfold CompOk; kernel_rfl
theorem ntab_morph_Name : CompOk Tryz.prog G0 16 a_morph_Name := by unfold CompOk; kernel_rfl
theorem ntab_morph_Word : CompOk Tryz.prog G0 17 a_morph_Word := by unfold CompOk; kernel_rfl
theorem ntab_morph_Plain : CompOk Tryz.prog G0 18 a_morph_Plain := by unfold CompOk; kernel_rfl
theorem ntab_truchmanref02_Unify : CompOk Tryz.prog G0 20 a_truchmanref02_Unify := by unfold CompOk; kernel_rfl
theorem ntab_truchmanlaw02_SameFeats : CompOk Tryz.prog G0 21 a_truchmanlaw02_SameFeats := by unfold CompOk; kernel_rfl
theorem ntab_morph_Subsumes : CompOk Tryz.prog G0 22 a_morph_Subsumes := by unfold CompOk; kernel_rfl
theorem ntab_truchmanref02_Subsumes : CompOk Tryz.prog G0 23 a_truchmanref02_Subsumes := by unfold CompOk; kernel_rfl
theorem ntab_morph_Check : CompOk Tryz.prog G0 33 a_morph_Check := by unfold CompOk; kernel_rfl
theorem ntab_slices_Contains_string_string : CompOk Tryz.prog G0 42 a_slices_Contains_string_string := by unfold CompOk; kernel_rfl
theorem ntab_morph_all : CompOk Tryz.prog G0 43 a_morph_all := by unfold CompOk; kernel_rfl
theorem ntab_morph_symbol : CompOk Tryz.prog G0 44 a_morph_symbol := by unfold CompOk; kernel_rfl
theorem ntab_morph_increasing : CompOk Tryz.prog G0 46 a_morph_increasing := by unfold CompOk; kernel_rfl
theorem ntab_morph_clash : CompOk Tryz.prog G0 47 a_morph_clash := by unfold CompOk; kernel_rfl
theorem ntab_morph_union : CompOk Tryz.prog G0 48 a_morph_union := by unfold CompOk; kernel_rfl
theorem ntab_morph_Name_1 : CompOk Tryz.prog G0 49 a_morph_Name_1 := by unfold CompOk; kernel_rfl
theorem ntab_morph_letter : CompOk Tryz.prog G0 50 a_morph_letter := by unfold CompOk; kernel_rfl
theorem ntab_morph_Name_2 : CompOk Tryz.prog G0 51 a_morph_Name_2 := by unfold CompOk; kernel_rfl
theorem ntab_morph_Word_1 : CompOk Tryz.prog G0 52 a_morph_Word_1 := by unfold CompOk; kernel_rfl
theorem ntab_slices_ContainsFunc_api_Feat_api_Feat : CompOk Tryz.prog G0 53 a_slices_ContainsFunc_api_Feat_api_Feat := by unfold CompOk; kernel_rfl
theorem ntab_morph_Subsumes_1 : CompOk Tryz.prog G0 54 a_morph_Subsumes_1 := by unfold CompOk; kernel_rfl
theorem ntab_slices_Contains_api_Feat_api_Feat : CompOk Tryz.prog G0 55 a_slices_Contains_api_Feat_api_Feat := by unfold CompOk; kernel_rfl
theorem ntab_truchmanref02_Check : CompOk Tryz.prog G0 57 a_truchmanref02_Check := by unfold CompOk; kernel_rfl
theorem ntab_morph_first : CompOk Tryz.prog G0 67 a_morph_first := by unfold CompOk; kernel_rfl
theorem ntab_morph_checker_vowels : CompOk Tryz.prog G0 68 a_morph_checker_vowels := by unfold CompOk; kernel_rfl
theorem ntab_morph_Check_1 : CompOk Tryz.prog G0 69 a_morph_Check_1 := by unfold CompOk; kernel_rfl
theorem ntab_morph_each_api_Trait : CompOk Tryz.prog G0 70 a_morph_each_api_Trait := by unfold CompOk; kernel_rfl
theorem ntab_morph_checker_trait : CompOk Tryz.prog G0 71 a_morph_checker_trait := by unfold CompOk; kernel_rfl
theorem ntab_morph_Check_2 : CompOk Tryz.prog G0 72 a_morph_Check_2 := by unfold CompOk; kernel_rfl
theorem ntab_morph_each_api_Class : CompOk Tryz.prog G0 73 a_morph_each_api_Class := by unfold CompOk; kernel_rfl
theorem ntab_morph_checker_class : CompOk Tryz.prog G0 74 a_morph_checker_class := by unfold CompOk; kernel_rfl
theorem ntab_morph_Check_3 : CompOk Tryz.prog G0 75 a_morph_Check_3 := by unfold CompOk; kernel_rfl
theorem ntab_morph_each_api_Entry : CompOk Tryz.prog G0 76 a_morph_each_api_Entry := by unfold CompOk; kernel_rfl
theorem ntab_morph_checker_entry : CompOk Tryz.prog G0 77 a_morph_checker_entry := by unfold CompOk; kernel_rfl
theorem ntab_morph_Check_4 : CompOk Tryz.prog G0 78 a_morph_Check_4 := by unfold CompOk; kernel_rfl
theorem ntab_morph_each_api_Spell : CompOk Tryz.prog G0 79 a_morph_each_api_Spell := by unfold CompOk; kernel_rfl
theorem ntab_morph_checker_spell : CompOk Tryz.prog G0 80 a_morph_checker_spell := by unfold CompOk; kernel_rfl
theorem ntab_morph_Check_5 : CompOk Tryz.prog G0 81 a_morph_Check_5 := by unfold CompOk; kernel_rfl
theorem ntab_morph_each_api_Link : CompOk Tryz.prog G0 82 a_morph_each_api_Link := by unfold CompOk; kernel_rfl
theorem ntab_morph_checker_link : CompOk Tryz.prog G0 83 a_morph_checker_link := by unfold CompOk; kernel_rfl
theorem ntab_morph_checker_bundle : CompOk Tryz.prog G0 89 a_morph_checker_bundle := by unfold CompOk; kernel_rfl
theorem ntab_morph_classOf : CompOk Tryz.prog G0 90 a_morph_classOf := by unfold CompOk; kernel_rfl
theorem ntab_slices_Index_string_string : CompOk Tryz.prog G0 91 a_slices_Index_string_string := by unfold CompOk; kernel_rfl
theorem ntab_morph_clash_1 : CompOk Tryz.prog G0 99 a_morph_clash_1 := by unfold CompOk; kernel_rfl
theorem ntab_morph_clash_1_1 : CompOk Tryz.prog G0 100 a_morph_clash_1_1 := by unfold CompOk; kernel_rfl
theorem ntab_slices_Concat_api_Feat_api_Feat : CompOk Tryz.prog G0 101 a_slices_Concat_api_Feat_api_Feat := by unfold CompOk; kernel_rfl
theorem ntab_morph_union_1 : CompOk Tryz.prog G0 103 a_morph_union_1 := by unfold CompOk; kernel_rfl
theorem ntab_strings_Compare : CompOk Tryz.prog G0 104 a_strings_Compare := by unfold CompOk; kernel_rfl
theorem ntab_slices_Compact_api_Feat_api_Feat : CompOk Tryz.prog G0 105 a_slices_Compact_api_Feat_api_Feat := by unfold CompOk; kernel_rfl
theorem ntab_slices_IndexFunc_api_Feat_api_Feat : CompOk Tryz.prog G0 106 a_slices_IndexFunc_api_Feat_api_Feat := by unfold CompOk; kernel_rfl
theorem ntab_slices_Index_api_Feat_api_Feat : CompOk Tryz.prog G0 107 a_slices_Index_api_Feat_api_Feat := by unfold CompOk; kernel_rfl
theorem ntab_truchmanref02_of : CompOk Tryz.prog G0 108 a_truchmanref02_of := by unfold CompOk; kernel_rfl
theorem ntab_truchmanref02_traits : CompOk Tryz.prog G0 109 a_truchmanref02_traits := by unfold CompOk; kernel_rfl
theorem ntab_truchmanref02_classes : CompOk Tryz.prog G0 110 a_truchmanref02_classes := by unfold CompOk; kernel_rfl
theorem ntab_truchmanref02_entries : CompOk Tryz.prog G0 111 a_truchmanref02_entries := by unfold CompOk; kernel_rfl
theorem ntab_truchmanref02_Class : CompOk Tryz.prog G0 112 a_truchmanref02_Class := by unfold CompOk; kernel_rfl
theorem ntab_truchmanref02_bundle : CompOk Tryz.prog G0 113 a_truchmanref02_bundle := by unfold CompOk; kernel_rfl
theorem ntab_slices_ContainsFunc_api_Trait_api_Trait : CompOk Tryz.prog G0 129 a_slices_ContainsFunc_api_Trait_api_Trait := by unfold CompOk; kernel_rfl
theorem ntab_morph_checker_trait_1 : CompOk Tryz.prog G0 130 a_morph_checker_trait_1 := by unfold CompOk; kernel_rfl
theorem ntab_slices_ContainsFunc_api_Class_api_Class : CompOk Tryz.prog G0 131 a_slices_ContainsFunc_api_Class_api_Class := by unfold CompOk; kernel_rfl
theorem ntab_morph_checker_class_1 : CompOk Tryz.prog G0 132 a_morph_checker_class_1 := by unfold CompOk; kernel_rfl
theorem ntab_morph_each_api_Slot : CompOk Tryz.prog G0 133 a_morph_each_api_Slot := by unfold CompOk; kernel_rfl
theorem ntab_morph_checker_class_2 : CompOk Tryz.prog G0 134 a_morph_checker_class_2 := by unfold CompOk; kernel_rfl
theorem ntab_morph_short : CompOk Tryz.prog G0 135 a_morph_short := by unfold CompOk; kernel_rfl
theorem ntab_slices_ContainsFunc_api_Entry_api_Entry : CompOk Tryz.prog G0 136 a_slices_ContainsFunc_api_Entry_api_Entry := by unfold CompOk; kernel_rfl
theorem ntab_morph_checker_entry_1 : CompOk Tryz.prog G0 137 a_morph_checker_entry_1 := by unfold CompOk; kernel_rfl
theorem ntab_slices_ContainsFunc_api_Slot_api_Slot : CompOk Tryz.prog G0 138 a_slices_ContainsFunc_api_Slot_api_Slot := by unfold CompOk; kernel_rfl
theorem ntab_morph_checker_entry_2 : CompOk Tryz.prog G0 139 a_morph_checker_entry_2 := by unfold CompOk; kernel_rfl
theorem ntab_slices_ContainsFunc_api_Irregular_api_Irregular : CompOk Tryz.prog G0 140 a_slices_ContainsFunc_api_Irregular_api_Irregular := by unfold CompOk; kernel_rfl
theorem ntab_morph_checker_entry_3 : CompOk Tryz.prog G0 141 a_morph_checker_entry_3 := by unfold CompOk; kernel_rfl
theorem ntab_morph_around : CompOk Tryz.prog G0 142 a_morph_around := by unfold CompOk; kernel_rfl
theorem ntab_morph_each_api_Feat : CompOk Tryz.prog G0 147 a_morph_each_api_Feat := by unfold CompOk; kernel_rfl
theorem ntab_morph_checker_bundle_1 : CompOk Tryz.prog G0 148 a_morph_checker_bundle_1 := by unfold CompOk; kernel_rfl
theorem ntab_slices_IndexFunc_api_Trait_api_Trait : CompOk Tryz.prog G0 149 a_slices_IndexFunc_api_Trait_api_Trait := by unfold CompOk; kernel_rfl
theorem ntab_morph_checker_bundle_1_1 : CompOk Tryz.prog G0 150 a_morph_checker_bundle_1_1 := by unfold CompOk; kernel_rfl
theorem ntab_slices_IndexFunc_api_Class_api_Class : CompOk Tryz.prog G0 151 a_slices_IndexFunc_api_Class_api_Class := by unfold CompOk; kernel_rfl
theorem ntab_morph_classOf_1 : CompOk Tryz.prog G0 152 a_morph_classOf_1 := by unfold CompOk; kernel_rfl
theorem ntab_slices_Grow_api_Feat_api_Feat : CompOk Tryz.prog G0 156 a_slices_Grow_api_Feat_api_Feat := by unfold CompOk; kernel_rfl
theorem ntab_internal_bytealg_CompareString : CompOk Tryz.prog G0 159 a_internal_bytealg_CompareString := by unfold CompOk; kernel_rfl
theorem ntab_truchmanref02_Letter : CompOk Tryz.prog G0 160 a_truchmanref02_Letter := by unfold CompOk; kernel_rfl
theorem ntab_truchmanref02_Name : CompOk Tryz.prog G0 161 a_truchmanref02_Name := by unfold CompOk; kernel_rfl
theorem ntab_truchmanref02_trait : CompOk Tryz.prog G0 162 a_truchmanref02_trait := by unfold CompOk; kernel_rfl
theorem ntab_truchmanref02_in : CompOk Tryz.prog G0 163 a_truchmanref02_in := by unfold CompOk; kernel_rfl
theorem ntab_truchmanref02_Plain : CompOk Tryz.prog G0 164 a_truchmanref02_Plain := by unfold CompOk; kernel_rfl
theorem ntab_slices_IndexFunc_api_Entry_api_Entry : CompOk Tryz.prog G0 173 a_slices_IndexFunc_api_Entry_api_Entry := by unfold CompOk; kernel_rfl
theorem ntab_slices_IndexFunc_api_Slot_api_Slot : CompOk Tryz.prog G0 174 a_slices_IndexFunc_api_Slot_api_Slot := by unfold CompOk; kernel_rfl
theorem ntab_slices_IndexFunc_api_Irregular_api_Irregular : CompOk Tryz.prog G0 175 a_slices_IndexFunc_api_Irregular_api_Irregular := by unfold CompOk; kernel_rfl
theorem ntab_truchmanref02_Word : CompOk Tryz.prog G0 191 a_truchmanref02_Word := by unfold CompOk; kernel_rfl
theorem ntab_ok : ∀ f af, ntab f = some af → CompOk Tryz.prog G0 f af := fun f af h => by
  unfold ntab at h
  revert h
  exact (tab_node (tab_node (tab_node (tab_node (tab_node (tab_node (tab_leaf (C := _) ntab_truchmanlaw02_MorphUnifies) (tab_leaf (C := _) ntab_truchmanlaw02_MorphOrder)) (tab_node (tab_leaf (C := _) ntab_morph_Unify) (tab_node (tab_leaf (C := _) ntab_morph_Name) (tab_leaf (C := _) ntab_morph_Word)))) (tab_node (tab_node (tab_leaf (C := _) ntab_morph_Plain) (tab_node (tab_leaf (C := _) ntab_truchmanref02_Unify) (tab_leaf (C := _) ntab_truchmanlaw02_SameFeats))) (tab_node (tab_leaf (C := _) ntab_morph_Subsumes) (tab_node (tab_leaf (C := _) ntab_truchmanref02_Subsumes) (tab_leaf (C := _) ntab_morph_Check))))) (tab_node (tab_node (tab_node (tab_leaf (C := _) ntab_slices_Contains_string_string) (tab_leaf (C := _) ntab_morph_all)) (tab_node (tab_leaf (C := _) ntab_morph_symbol) (tab_node (tab_leaf (C := _) ntab_morph_increasing) (tab_leaf (C := _) ntab_morph_clash)))) (tab_node (tab_node (tab_leaf (C := _) ntab_morph_union) (tab_node (tab_leaf (C := _) ntab_morph_Name_1) (tab_leaf (C := _) ntab_morph_letter))) (tab_node (tab_leaf (C := _) ntab_morph_Name_2) (tab_node (tab_leaf (C := _) ntab_morph_Word_1) (tab_leaf (C := _) ntab_slices_ContainsFunc_api_Feat_api_Feat)))))) (tab_node (tab_node (tab_node (tab_node (tab_leaf (C := _) ntab_morph_Subsumes_1) (tab_leaf (C := _) ntab_slices_Contains_api_Feat_api_Feat)) (tab_node (tab_leaf (C := _) ntab_truchmanref02_Check) (tab_node (tab_leaf (C := _) ntab_morph_first) (tab_leaf (C := _) ntab_morph_checker_vowels)))) (tab_node (tab_node (tab_leaf (C := _) ntab_morph_Check_1) (tab_node (tab_leaf (C := _) ntab_morph_each_api_Trait) (tab_leaf (C := _) ntab_morph_checker_trait))) (tab_node (tab_leaf (C := _) ntab_morph_Check_2) (tab_node (tab_leaf (C := _) ntab_morph_each_api_Class) (tab_leaf (C := _) ntab_morph_checker_class))))) (tab_node (tab_node (tab_node (tab_leaf (C := _) ntab_morph_Check_3) (tab_node (tab_leaf (C := _) ntab_morph_each_api_Entry) (tab_leaf (C := _) ntab_morph_checker_entry))) (tab_node (tab_leaf (C := _) ntab_morph_Check_4) (tab_node (tab_leaf (C := _) ntab_morph_each_api_Spell) (tab_leaf (C := _) ntab_morph_checker_spell)))) (tab_node (tab_node (tab_leaf (C := _) ntab_morph_Check_5) (tab_node (tab_leaf (C := _) ntab_morph_each_api_Link) (tab_leaf (C := _) ntab_morph_checker_link))) (tab_node (tab_leaf (C := _) ntab_morph_checker_bundle) (tab_node (tab_leaf (C := _) ntab_morph_classOf) (tab_leaf (C := _) ntab_slices_Index_string_string))))))) (tab_node (tab_node (tab_node (tab_node (tab_node (tab_leaf (C := _) ntab_morph_clash_1) (tab_leaf (C := _) ntab_morph_clash_1_1)) (tab_node (tab_leaf (C := _) ntab_slices_Concat_api_Feat_api_Feat) (tab_node (tab_leaf (C := _) ntab_morph_union_1) (tab_leaf (C := _) ntab_strings_Compare)))) (tab_node (tab_node (tab_leaf (C := _) ntab_slices_Compact_api_Feat_api_Feat) (tab_node (tab_leaf (C := _) ntab_slices_IndexFunc_api_Feat_api_Feat) (tab_leaf (C := _) ntab_slices_Index_api_Feat_api_Feat))) (tab_node (tab_leaf (C := _) ntab_truchmanref02_of) (tab_node (tab_leaf (C := _) ntab_truchmanref02_traits) (tab_leaf (C := _) ntab_truchmanref02_classes))))) (tab_node (tab_node (tab_node (tab_leaf (C := _) ntab_truchmanref02_entries) (tab_leaf (C := _) ntab_truchmanref02_Class)) (tab_node (tab_leaf (C := _) ntab_truchmanref02_bundle) (tab_node (tab_leaf (C := _) ntab_slices_ContainsFunc_api_Trait_api_Trait) (tab_leaf (C := _) ntab_morph_checker_trait_1)))) (tab_node (tab_node (tab_leaf (C := _) ntab_slices_ContainsFunc_api_Class_api_Class) (tab_node (tab_leaf (C := _) ntab_morph_checker_class_1) (tab_leaf (C := _) ntab_morph_each_api_Slot))) (tab_node (tab_leaf (C := _) ntab_morph_checker_class_2) (tab_node (tab_leaf (C := _) ntab_morph_short) (tab_leaf (C := _) ntab_slices_ContainsFunc_api_Entry_api_Entry)))))) (tab_node (tab_node (tab_node (tab_node (tab_leaf (C := _) ntab_morph_checker_entry_1) (tab_leaf (C := _) ntab_slices_ContainsFunc_api_Slot_api_Slot)) (tab_node (tab_leaf (C := _) ntab_morph_checker_entry_2) (tab_node (tab_leaf (C := _) ntab_slices_ContainsFunc_api_Irregular_api_Irregular) (tab_leaf (C := _) ntab_morph_checker_entry_3)))) (tab_node (tab_node (tab_leaf (C := _) ntab_morph_around) (tab_node (tab_leaf (C := _) ntab_morph_each_api_Feat) (tab_leaf (C := _) ntab_morph_checker_bundle_1))) (tab_node (tab_leaf (C := _) ntab_slices_IndexFunc_api_Trait_api_Trait) (tab_node (tab_leaf (C := _) ntab_morph_checker_bundle_1_1) (tab_leaf (C := _) ntab_slices_IndexFunc_api_Class_api_Class))))) (tab_node (tab_node (tab_node (tab_leaf (C := _) ntab_morph_classOf_1) (tab_node (tab_leaf (C := _) ntab_slices_Grow_api_Feat_api_Feat) (tab_leaf (C := _) ntab_internal_bytealg_CompareString))) (tab_node (tab_leaf (C := _) ntab_truchmanref02_Letter) (tab_node (tab_leaf (C := _) ntab_truchmanref02_Name) (tab_leaf (C := _) ntab_truchmanref02_trait)))) (tab_node (tab_node (tab_leaf (C := _) ntab_truchmanref02_in) (tab_node (tab_leaf (C := _) ntab_truchmanref02_Plain) (tab_leaf (C := _) ntab_slices_IndexFunc_api_Entry_api_Entry))) (tab_node (tab_leaf (C := _) ntab_slices_IndexFunc_api_Slot_api_Slot) (tab_node (tab_leaf (C := _) ntab_slices_IndexFunc_api_Irregular_api_Irregular) (tab_leaf (C := _) ntab_truchmanref02_Word))))))))

/-- That some word lives in the example's lexicon: run alone; the sort. -/
def norc (f : FuncId) (args : List AV) (H : List AObj) : Option Out :=
  match args with
  | [] => bif Nat.beq f f_truchmanlaw02_lives then some (.ret (.bool true), H) else none
  | args => match sorc f_slices_SortFunc_api_Feat_api_Feat f_morph_union_1 f args H with
    | some r => some r
    | none => xorc f args H
theorem norc_ok {f : FuncId} {args : List AV} {H H' : List AObj} {r : ARes} (h : norc f args H = some (r, H')) : ACalls Tryz.prog G0 f args H fun r2 H2 => r2 = r ∧ H2 = H' := by
  unfold norc at h
  split at h
  · cases h1 : Nat.beq f f_truchmanlaw02_lives with
    | true => rw [h1] at h; cases h; rw [Nat.eq_of_beq_eq_true h1]; exact lives_ok H
    | false => rw [h1] at h; cases h
  · split at h
    · rename_i r' hr
      cases h
      exact sorc_ok sort_enters sort_calls sort_none hr
    · exact xorc_ok h

noncomputable def EN : REnv := { P := Tryz.prog, G := G0, fn := ntab, orc := norc, dfn := fun _ => none }
theorem EN_ok : EN.Ok := ⟨x_mixed, fun f af h => ntab_ok f af h, (fun _ _ _ h => by cases h), (fun _ _ _ _ _ h => by cases h), fun _ _ _ _ _ h => norc_ok h⟩
theorem sort_ok (M : Mach cdec EN) : SortE M srtF := by
  refine ⟨fun H => ?_, fun {l H id T} h0 hl hx => ?_, fun l => ?_⟩
  · rw [run_orc M rfl]; rfl
  · rw [run_orc M rfl]
    have hd : decP (rowsF l) = some (l.map toP) := by rw [rows_to]; exact decP_rows _
    have hs : sorc f_slices_SortFunc_api_Feat_api_Feat f_morph_union_1 f_slices_SortFunc_api_Feat_api_Feat [.rslice id 0 l.length 2 true, .fn (.func f_morph_union_1) [] []] H = some (.ret (.tuple []), H.set id (.cells (rowsF (srtF l)) T)) := by
      have hb : ∀ n : Nat, Nat.beq n n = true := fun n => by simp
      have hle : Nat.ble l.length 4000000000 = true := Nat.ble_eq_true_of_le hl
      unfold sorc
      simp only [hb, Bool.and_self, cond_true, hx, hd, List.length_map, hle]
      rw [srtF, rows_of]
    show (match sorc f_slices_SortFunc_api_Feat_api_Feat f_morph_union_1 f_slices_SortFunc_api_Feat_api_Feat [.rslice id 0 l.length 2 true, .fn (.func f_morph_union_1) [] []] H with
      | some r => some r
      | none => xorc f_slices_SortFunc_api_Feat_api_Feat [.rslice id 0 l.length 2 true, .fn (.func f_morph_union_1) [] []] H) = _
    rw [hs]
  · simpa using (srt_ok.perm l).length_eq

end Go.Am
end

