import Derived.Test.YtaomolffnolpdaaGreatDoorA4
import Derived.Lib.MapLaws
import Derived.Stop.FmtQuoteTie
/-
  Part 5 of the tool: an abstract machine over the model, proved sound, and what it says of the functions that the law reaches. Condition: none but those that each theorem names.
-/
set_option linter.unusedVariables false
set_option linter.unusedSimpArgs false
section
set_option linter.unusedSimpArgs false
namespace Go.Am
open Go.RowKit

/-! Runes of a text, as plain lists -/
def dec1 (s : Str) : Nat × Nat := Lib.decodeL s
theorem dec1_w (s : Str) : 1 ≤ (dec1 s).2 := Lib.decodeL_width s
theorem dec1_le {s : Str} (h : s ≠ []) : (dec1 s).2 ≤ s.length := Lib.decodeL_le s h
theorem dec1_drop (s : Str) (i : Nat) : Utf8.decode ⟨s.toArray⟩ i = dec1 (s.drop i) := (Lib.decodeL_drop ⟨s.toArray⟩ i).symm
theorem encR (r : Nat) : (Utf8.encode (r : Int)).data.toList = Lib.encodeRune (r : Int) := by
  have h := Extern.FmtText.encode_eq r
  unfold Lib.encodeRune
  rw [← h, Extern.FmtText.nums, List.map_map]
  conv => lhs; rw [← List.map_id (Utf8.encode (r : Int)).data.toList]
  refine List.map_congr_left fun c _ => ?_
  simp
theorem enc_dec {s : Str} (hne : s ≠ []) (hv : ¬ ((dec1 s).1 = 65533 ∧ (dec1 s).2 = 1)) : (Utf8.encode ((dec1 s).1 : Int)).data.toList = s.take (dec1 s).2 := by
  rw [encR]; exact Lib.encode_decode s hne hv

/-- The runes of a text, so many at most. -/
def runN : Nat → Str → List Nat
  | 0, _ => []
  | n + 1, s => match s with
    | [] => []
    | c :: t => (dec1 (c :: t)).1 :: runN n ((c :: t).drop (dec1 (c :: t)).2)
theorem runN_nil (n : Nat) : runN n [] = [] := by cases n <;> rfl
theorem runN_step {n : Nat} {s : Str} (h : s ≠ []) : runN (n + 1) s = (dec1 s).1 :: runN n (s.drop (dec1 s).2) := by
  cases s with
  | nil => exact absurd rfl h
  | cons c t => rfl
theorem runN_fuel : ∀ (n m : Nat) (s : Str), s.length ≤ n → s.length ≤ m → runN n s = runN m s
  | 0, m, s, h, _ => by
    obtain rfl : s = [] := List.eq_nil_of_length_eq_zero (by omega)
    rw [runN_nil, runN_nil]
  | n + 1, 0, s, _, h => by
    obtain rfl : s = [] := List.eq_nil_of_length_eq_zero (by omega)
    rw [runN_nil, runN_nil]
  | n + 1, m + 1, s, h, h' => by
    by_cases hs : s = []
    · subst hs; rw [runN_nil, runN_nil]
    · have hw := dec1_w s
      rw [runN_step hs, runN_step hs, runN_fuel n m _ (by rw [List.length_drop]; omega) (by rw [List.length_drop]; omega)]
def runesL (s : Str) : List Nat := runN s.length s
theorem runesL_step {s : Str} (h : s ≠ []) : runesL s = (dec1 s).1 :: runesL (s.drop (dec1 s).2) := by
  have hl : 0 < s.length := List.length_pos_iff.2 h
  have hw := dec1_w s
  obtain ⟨n, hn⟩ : ∃ n, s.length = n + 1 := ⟨s.length - 1, by omega⟩
  unfold runesL
  rw [hn, runN_step h, runN_fuel n (s.drop (dec1 s).2).length _ (by rw [List.length_drop]; omega) (Nat.le_refl _)]
theorem runesG_runN (s : Str) : ∀ (n i : Nat), runesG ⟨s.toArray⟩ n i = (runN n (s.drop i)).map Int.ofNat
  | 0, i => rfl
  | n + 1, i => by
    rw [runesG]
    have hsz : (ByteArray.mk s.toArray).size = s.length := by simp [ByteArray.size]
    by_cases h : i < s.length
    · rw [if_pos (by rw [hsz]; exact h), runN_step (fun e => by have := congrArg List.length e; simp at this; omega), runesG_runN s n, dec1_drop, List.map_cons, List.drop_drop]
    · rw [if_neg (by rw [hsz]; exact h), List.drop_of_length_le (by omega), runN_nil]; rfl
theorem runesOf_L (s : Str) : runesOf s = (runesL s).map Int.ofNat := by
  unfold runesOf runesL
  rw [runesG_runN, List.drop_zero]

/-! Whether a text is text -/
def badR (r w : Nat) : Bool := ((r : Int) == 65533) && decide ((w : Int) < 2) || decide ((r : Int) < 32) || ((r : Int) == 127)
def textN : Nat → Str → Bool
  | 0, _ => true
  | n + 1, s => match s with
    | [] => true
    | c :: t => !badR (dec1 (c :: t)).1 (dec1 (c :: t)).2 && textN n ((c :: t).drop (dec1 (c :: t)).2)
theorem textN_nil (n : Nat) : textN n [] = true := by cases n <;> rfl
theorem textN_step {n : Nat} {s : Str} (h : s ≠ []) : textN (n + 1) s = (!badR (dec1 s).1 (dec1 s).2 && textN n (s.drop (dec1 s).2)) := by
  cases s with
  | nil => exact absurd rfl h
  | cons c t => rfl
def textF (s : Str) : Bool := textN s.length s
/-! The string of a string's runes -/
theorem runeStr_nat : ∀ l : List Nat, runeStr (l.map Int.ofNat) = (l.map fun r => (Utf8.encode ((r : Nat) : Int)).data.toList).flatten
  | [] => rfl
  | r :: l => by rw [List.map_cons, runeStr, runeStr_nat l, List.map_cons, List.flatten_cons, Int.ofNat_eq_natCast]
def strL (l : List Nat) : Str := (l.map fun r => (Utf8.encode ((r : Nat) : Int)).data.toList).flatten
theorem strL_cons (r : Nat) (l : List Nat) : strL (r :: l) = (Utf8.encode (r : Int)).data.toList ++ strL l := rfl
theorem enc_bad {r : Nat} (h : r = 65533) : (Utf8.encode (r : Int)).data.toList = [239, 191, 189] := by
  rw [Extern.FmtText.enc3 r (by omega) (by omega) (by omega), h]
  rfl
theorem dec_bad (t : Str) : dec1 (239 :: 191 :: 189 :: t) = (65533, 3) := by
  unfold dec1
  rw [Lib.decodeL_N]
  simp [Lib.decodeN]
/-- Valid: no rune was wrong. -/
def validN : Nat → Str → Bool
  | 0, _ => true
  | n + 1, s => match s with
    | [] => true
    | c :: t => !(((dec1 (c :: t)).1 == 65533) && ((dec1 (c :: t)).2 == 1)) && validN n ((c :: t).drop (dec1 (c :: t)).2)
theorem str_valid : ∀ (n : Nat) (s : Str), s.length ≤ n → ((strL (runN n s) == s) = validN n s)
  | 0, s, h => by
    obtain rfl : s = [] := List.eq_nil_of_length_eq_zero (by omega)
    rfl
  | n + 1, [], _ => rfl
  | n + 1, c :: t, h => by
    have hw := dec1_w (c :: t)
    have ih := str_valid n ((c :: t).drop (dec1 (c :: t)).2) (by rw [List.length_drop]; simp at h ⊢; omega)
    rw [runN_step (by simp), strL_cons, validN]
    by_cases hb : (dec1 (c :: t)).1 = 65533 ∧ (dec1 (c :: t)).2 = 1
    · have hbb : (((dec1 (c :: t)).1 == 65533) && ((dec1 (c :: t)).2 == 1)) = true := by simp [hb]
      rw [hbb, Bool.not_true, Bool.false_and, beq_eq_false_iff_ne, enc_bad hb.1]
      intro e
      generalize strL (runN n ((c :: t).drop (dec1 (c :: t)).2)) = u at e
      have e2 : c :: t = (239 : UInt8) :: 191 :: 189 :: u := by rw [← e]; rfl
      rw [e2, dec_bad] at hb
      exact absurd hb.2 (by decide)
    · have hbb : (((dec1 (c :: t)).1 == 65533) && ((dec1 (c :: t)).2 == 1)) = false := by
        rw [Bool.and_eq_false_iff]
        by_cases h1 : (dec1 (c :: t)).1 = 65533
        · right; simp; exact fun h2 => hb ⟨h1, h2⟩
        · left; simpa using h1
      rw [hbb, Bool.not_false, Bool.true_and, ← ih, enc_dec (by simp) hb, Bool.eq_iff_iff, beq_iff_eq, beq_iff_eq]
      constructor
      · intro e
        have e3 : (c :: t).take (dec1 (c :: t)).2 ++ strL (runN n ((c :: t).drop (dec1 (c :: t)).2)) = (c :: t).take (dec1 (c :: t)).2 ++ (c :: t).drop (dec1 (c :: t)).2 := by rw [List.take_append_drop]; exact e
        exact List.append_cancel_left e3
      · intro e
        rw [e, List.take_append_drop]
def okR (l : List Nat) : Bool := l.all fun r => !(decide ((r : Int) < 32) || ((r : Int) == 127))
theorem text_valid : ∀ (n : Nat) (s : Str), s.length ≤ n → (validN n s && okR (runN n s)) = textN n s
  | 0, s, h => rfl
  | n + 1, [], _ => rfl
  | n + 1, c :: t, h => by
    have hw := dec1_w (c :: t)
    have ih := text_valid n ((c :: t).drop (dec1 (c :: t)).2) (by rw [List.length_drop]; simp at h ⊢; omega)
    rw [runN_step (by simp), validN, textN, ← ih]
    unfold okR badR
    rw [List.all_cons]
    have e1 : (((dec1 (c :: t)).1 : Int) == 65533) = ((dec1 (c :: t)).1 == 65533) := by rw [Bool.eq_iff_iff]; simp; omega
    have e2 : decide (((dec1 (c :: t)).2 : Int) < 2) = ((dec1 (c :: t)).2 == 1) := by rw [Bool.eq_iff_iff]; simp; omega
    rw [e1, e2]
    cases ((dec1 (c :: t)).1 == 65533) <;> cases ((dec1 (c :: t)).2 == 1) <;> cases decide (((dec1 (c :: t)).1 : Int) < 32) <;> cases (((dec1 (c :: t)).1 : Int) == 127) <;> simp
/-- The specification's way to say that a text is text. -/
theorem textF_ref (s : Str) : (sel (strL (runesL s) == s) (okR (runesL s)) false) = textF s := by
  unfold textF
  rw [← text_valid s.length s (Nat.le_refl _), ← str_valid s.length s (Nat.le_refl _)]
  show sel _ _ _ = (strL (runesL s) == s && _)
  cases strL (runesL s) == s <;> rfl
theorem runN_len : ∀ (n : Nat) (s : Str), (runN n s).length ≤ s.length
  | 0, _ => Nat.zero_le _
  | n + 1, [] => by simp [runN]
  | n + 1, c :: t => by
    have hw := dec1_w (c :: t)
    have := runN_len n ((c :: t).drop (dec1 (c :: t)).2)
    rw [runN_step (by simp), List.length_cons]
    rw [List.length_drop] at this
    simp at this ⊢; omega
theorem runesL_len (s : Str) : (runesL s).length ≤ s.length := runN_len _ _
end Go.Am
end

section
set_option linter.unusedSimpArgs false
set_option linter.unusedVariables false
set_option maxRecDepth 100000
set_option maxHeartbeats 4000000
namespace Go.Am
open Go.RowKit
attribute [local congr] dsel_congr sel_c1 slc_cong gsel_congr go_congr aft_congr aftD_congr condR_congr backR_congr inR_congr at2_congr
variable {E : REnv} (M : Mach cdec E)

structure BasE (E : REnv) : Prop where
  docs_isText : E.fn f_docs_isText = some a_docs_isText
  docs_isName : E.fn f_docs_isName = some a_docs_isName
  truchmanref01_Text : E.fn f_truchmanref01_Text = some a_truchmanref01_Text
  truchmanref01_Name : E.fn f_truchmanref01_Name = some a_truchmanref01_Name
  docs_carried_takes : E.fn f_docs_carried_takes = some a_docs_carried_takes
  docs_stack_string_pop : E.fn f_docs_stack_string_pop = some a_docs_stack_string_pop
  docs_stack_string_push : E.fn f_docs_stack_string_push = some a_docs_stack_string_push
  docs_CheckPieces : E.fn f_docs_CheckPieces = some a_docs_CheckPieces
  truchmanref01_alone : E.fn f_truchmanref01_alone = some a_truchmanref01_alone
  truchmanref01_carried : E.fn f_truchmanref01_carried = some a_truchmanref01_carried
  truchmanref01_CheckPieces : E.fn f_truchmanref01_CheckPieces = some a_truchmanref01_CheckPieces
  truchmanref01_SamePieces : E.fn f_truchmanref01_SamePieces = some a_truchmanref01_SamePieces
  truchmanlaw01_long : E.fn f_truchmanlaw01_long = some a_truchmanlaw01_long

/-! Functions without bodies -/
def decG (s : Str) : Nat × Nat := if s = [] then (65533, 0) else dec1 s
structure ExtD (M : Mach cdec E) : Prop where
  dec : ∀ (s : Str) (H : List AObj), M.run f_unicode_utf8_DecodeRuneInString [.str s] H = some (.ret (.tuple [.int .i32 ((decG s).1 : Int), .int .i64 ((decG s).2 : Int)]), H)

/-! Strings -/
theorem sls_from {s : Str} {k : IntKind} {i : Nat} (h : i ≤ s.length) : rsls (.str s) (some (.int k (i : Int))) none = some (.str (s.drop i)) := by
  simp [rsls, abound, h]
  exact List.take_of_length_le (by simp)
theorem wrap_a {a b : Nat} (h : a + b ≤ maxL) : IntKind.i64.wrap ((a : Int) + (b : Int)) = ((a + b : Nat) : Int) := by
  simp only [maxL] at h
  rw [wrap_i64 (by omega) (by omega)]; omega

theorem slc_na {α : Type} (b p : Bool) (x y : α) : slc b y (slc p x y) = slc (!b && p) x y := by cases b <;> rfl
theorem txl (hX : ExtD M) {s : Str} (hs : s.length ≤ maxL) {H H0 : List AObj} (hc : CutOk H0 H) (k : List Fra) : ∀ (n i : Nat) (He : List AObj), s.length - i ≤ n → i ≤ s.length →
    M.go a_docs_isText H0 (.c l_docs_isText_0 :: .lp ⟨(some [0, 3]), [], false⟩ l_docs_isText_0 He :: .blk 0 :: .c (.lv []) :: k) (kv [(0, .str s), (3, .int .i64 i)]) H = sel (textN n (s.drop i)) (M.go a_docs_isText H0 k .leaf H) (some (.ret (.bool false), H.take H0.length))
  | 0, i, He, h, hi => by
    obtain rfl : i = s.length := by omega
    rw [go_head M l_docs_isText_0.eq_1]
    simp (maxSteps := 3000000) (maxDischargeDepth := 6) +contextual -implicitDefEqProofs only [amC M, ↓amD, Nat.reduceBEq, Nat.reduceAdd, env, fargs, q_docs_isText, Nat.lt_irrefl, textN]
  | n + 1, i, He, h, hi => by
    by_cases hlt : i < s.length
    · have hne : s.drop i ≠ [] := fun e => by have := congrArg List.length e; simp at this; omega
      have hw := dec1_w (s.drop i)
      have hle := dec1_le hne
      rw [List.length_drop] at hle
      have hd := fun H => hX.dec (s.drop i) H
      have hg : decG (s.drop i) = dec1 (s.drop i) := if_neg hne
      rw [hg] at hd
      have ih := fun He => txl hX hs hc k n (i + (dec1 (s.drop i)).2) He (by omega) (by omega)
      rw [← List.drop_drop] at ih
      have hws := wrap_a (a := i) (b := (dec1 (s.drop i)).2) (by omega)
      rw [textN_step hne]
      simp only [kv_cons, kv_nil] at ih
      generalize dec1 (s.drop i) = d at *
      rw [go_head M l_docs_isText_0.eq_1]
      simp (maxSteps := 3000000) (maxDischargeDepth := 6) +contextual -implicitDefEqProofs only [amC M, ↓amD, Nat.reduceBEq, Nat.reduceAdd, env, fargs, q_docs_isText, hlt, sls_from hi, hd, ih, hws, badR, hc]
      exact slc_na _ _ _ _
    · obtain rfl : i = s.length := by omega
      rw [List.drop_length, textN_nil]
      rw [go_head M l_docs_isText_0.eq_1]
      simp (maxSteps := 3000000) (maxDischargeDepth := 6) +contextual -implicitDefEqProofs only [amC M, ↓amD, Nat.reduceBEq, Nat.reduceAdd, env, fargs, q_docs_isText, Nat.lt_irrefl]
theorem run_isText (hB : BasE E) (hX : ExtD M) {s : Str} (hs : s.length ≤ maxL) (H : List AObj) : M.run f_docs_isText [.str s] H = some (.ret (.bool (textF s)), H) := by
  rw [run_c M hB.docs_isText rfl (c := c_docs_isText) rfl, c_docs_isText]
  have hl := fun k He => txl M hX hs (cut_refl H) k s.length 0 He (by omega) (by omega)
  simp only [kv_cons, kv_nil, Int.ofNat_zero, List.drop_zero] at hl
  simp (maxSteps := 3000000) (maxDischargeDepth := 6) +contextual -implicitDefEqProofs only [amC M, ↓amD, Nat.reduceBEq, Nat.reduceAdd, env, fargs, q_docs_isText, hl, textF]

/-! The specification's text -/
theorem rcvrs_L (t : Tag) (l : List Nat) : rcvrs (.slice t 1 ((l.map Int.ofNat).map fun n => [.int .i32 n])) = some (.str (strL l)) := by
  have h : ∀ l : List Nat, arunes ((l.map Int.ofNat).map fun n => [AV.int .i32 n]) = some (l.map Int.ofNat) := fun l => by
    induction l with
    | nil => rfl
    | cons r l ih => simp only [List.map_cons, arunes] at ih ⊢; rw [ih]; rfl
  simp only [rcvrs, h, Option.map_some, runeStr_nat]; rfl
theorem rcvsr_L {s : Str} (h : s.length ≤ 70368744177664) : rcvsr (.str s) = some (.slice .any 1 ((runesL s).map fun r : Nat => [AV.int .i32 (r : Int)])) := by
  simp only [rcvsr, if_pos h, runesOf_L, List.map_map]; rfl
def runeRow (r : Nat) : List AV := [.int .i32 (r : Int)]
theorem rcvsr_R {s : Str} (h : s.length ≤ 70368744177664) : rcvsr (.str s) = some (.slice .any 1 ((runesL s).map runeRow)) := rcvsr_L h
theorem rcvrs_R (t : Tag) (l : List Nat) : rcvrs (.slice t 1 (l.map runeRow)) = some (.str (strL l)) := by
  rw [← rcvrs_L t l, List.map_map]; rfl
theorem qRune : (∀ r : Nat, rload none (runeRow r) 0 = some (.int .i32 (r : Int))) := fun _ => rfl
theorem rtx {H H0 : List AObj} {l : List Nat} (hl : l.length ≤ maxL) (hc : CutOk H0 H) (k : List Fra) : ∀ (n i : Nat) (He : List AObj), i + n = l.length →
    M.go a_truchmanref01_Text H0 (.c l_truchmanref01_Text_0 :: .lp ⟨(some [3, 4]), [], false⟩ l_truchmanref01_Text_0 He :: .blk 0 :: .c (.lv []) :: k) (kv [(3, .slice .any 1 (l.map runeRow)), (4, .int .i64 i)]) H =
      sel ((l.drop i).all fun r => !(decide ((r : Int) < 32) || ((r : Int) == 127))) (M.go a_truchmanref01_Text H0 k .leaf H) (some (.ret (.bool false), H.take H0.length))
  | 0, i, He, h => by
    have e : i = l.length := by omega
    subst e
    rw [go_head M l_truchmanref01_Text_0.eq_1]
    simp (maxSteps := 3000000) (maxDischargeDepth := 6) +contextual -implicitDefEqProofs only [amC M, ↓amD, Nat.reduceBEq, Nat.reduceAdd, env, fargs, q_truchmanref01_Text, Nat.lt_irrefl, List.drop_length, List.all_nil]
  | n + 1, i, He, h => by
    have hi : i < l.length := by omega
    have hx : l[i]? = some l[i] := List.getElem?_eq_getElem hi
    have hd : (l.drop i) = l[i] :: l.drop (i + 1) := List.drop_eq_getElem_cons hi
    have hm : l[i] ∈ l := List.getElem_mem hi
    have ih := fun He => rtx (H := H) (H0 := H0) (l := l) (hl := hl) hc k n (i + 1)  He (by omega)
    simp only [kv_cons, kv_nil] at ih
    rw [go_head M l_truchmanref01_Text_0.eq_1]
    simp (maxSteps := 3000000) (maxDischargeDepth := 6) +contextual -implicitDefEqProofs only [amC M, ↓amD, Nat.reduceBEq, Nat.reduceAdd, env, fargs, q_truchmanref01_Text, hx, hd, hi, ih, wrap_s hi hl, ias_row hi, qRune, List.all_cons, hc]
    exact slc_na _ _ _ _
theorem run_Text (hB : BasE E) {s : Str} (hs : s.length ≤ 70368744177664) (H : List AObj) : M.run f_truchmanref01_Text [.str s] H = some (.ret (.bool (textF s)), H) := by
  rw [← textF_ref]
  have hn : (runesL s).length ≤ maxL := by have := runesL_len s; simp only [maxL]; omega
  rw [run_c M hB.truchmanref01_Text rfl (c := c_truchmanref01_Text) rfl, c_truchmanref01_Text]
  have hl := fun k He => rtx M (l := runesL s) hn (cut_refl H) k (runesL s).length 0 He (by omega)
  simp only [kv_cons, kv_nil, Int.ofNat_zero, List.drop_zero] at hl
  simp (maxSteps := 3000000) (maxDischargeDepth := 6) +contextual -implicitDefEqProofs only [amC M, ↓amD, Nat.reduceBEq, Nat.reduceAdd, env, fargs, q_truchmanref01_Text, hl, rcvsr_R hs, rcvrs_R, okR]

/-! Names -/
def inN (c : UInt8) : Bool := decide (97 ≤ (c.toNat : Int)) && decide ((c.toNat : Int) ≤ 122) || decide (48 ≤ (c.toNat : Int)) && decide ((c.toNat : Int) ≤ 57) || ((c.toNat : Int) == 45)
def nameD (s : Str) : Bool := match s with
  | [] => false
  | c :: t => decide (((c :: t).length : Int) ≤ 16) && decide (97 ≤ (c.toNat : Int)) && decide ((c.toNat : Int) ≤ 122) && (c :: t).all inN
theorem dlt (a b : Int) : decide (a < b) = !decide (b ≤ a) := by rw [Bool.eq_iff_iff]; simp
theorem nml {H H0 : List AObj} {s : Str} (hs : s.length ≤ maxL) (hc : CutOk H0 H) (k : List Fra) : ∀ (n i : Nat) (He : List AObj), i + n = s.length →
    M.go a_docs_isName H0 (.c l_docs_isName_0 :: .lp ⟨(some [0, 23, 24]), [], false⟩ l_docs_isName_0 He :: .blk 0 :: .c (.lv []) :: k) (kv [(0, .str s), (23, .int .i64 s.length), (24, .int .i64 i)]) H =
      sel ((s.drop i).all inN) (M.go a_docs_isName H0 k .leaf H) (some (.ret (.bool false), H.take H0.length))
  | 0, i, He, h => by
    have e : i = s.length := by omega
    subst e
    rw [go_head M l_docs_isName_0.eq_1]
    simp (maxSteps := 3000000) (maxDischargeDepth := 6) +contextual -implicitDefEqProofs only [amC M, ↓amD, Nat.reduceBEq, Nat.reduceAdd, env, fargs, q_docs_isName, Nat.lt_irrefl, List.drop_length, List.all_nil]
  | n + 1, i, He, h => by
    have hi : i < s.length := by omega
    have hx : s[i]? = some s[i] := List.getElem?_eq_getElem hi
    have hd : (s.drop i) = s[i] :: s.drop (i + 1) := List.drop_eq_getElem_cons hi
    have hm : s[i] ∈ s := List.getElem_mem hi
    have ih := fun He => nml (H := H) (H0 := H0) (s := s) (hs := hs) hc k n (i + 1)  He (by omega)
    simp only [kv_cons, kv_nil] at ih
    rw [go_head M l_docs_isName_0.eq_1]
    simp (maxSteps := 3000000) (maxDischargeDepth := 6) +contextual -implicitDefEqProofs only [amC M, ↓amD, Nat.reduceBEq, Nat.reduceAdd, env, fargs, q_docs_isName, hx, hd, hi, ih, wrap_s hi hs, List.all_cons, hc, inN]
theorem rnl {H H0 : List AObj} {s : Str} (hs : s.length ≤ maxL) (hc : CutOk H0 H) (k : List Fra) : ∀ (n i : Nat) (He : List AObj), i + n = s.length →
    M.go a_truchmanref01_Name H0 (.c l_truchmanref01_Name_0 :: .lp ⟨(some [0, 3]), [], false⟩ l_truchmanref01_Name_0 He :: .blk 0 :: .c (.lv []) :: k) (kv [(0, .str s), (3, .int .i64 i)]) H =
      sel ((s.drop i).all inN) (M.go a_truchmanref01_Name H0 k .leaf H) (some (.ret (.bool false), H.take H0.length))
  | 0, i, He, h => by
    have e : i = s.length := by omega
    subst e
    rw [go_head M l_truchmanref01_Name_0.eq_1]
    simp (maxSteps := 3000000) (maxDischargeDepth := 6) +contextual -implicitDefEqProofs only [amC M, ↓amD, Nat.reduceBEq, Nat.reduceAdd, env, fargs, q_truchmanref01_Name, Nat.lt_irrefl, List.drop_length, List.all_nil]
  | n + 1, i, He, h => by
    have hi : i < s.length := by omega
    have hx : s[i]? = some s[i] := List.getElem?_eq_getElem hi
    have hd : (s.drop i) = s[i] :: s.drop (i + 1) := List.drop_eq_getElem_cons hi
    have hm : s[i] ∈ s := List.getElem_mem hi
    have ih := fun He => rnl (H := H) (H0 := H0) (s := s) (hs := hs) hc k n (i + 1)  He (by omega)
    simp only [kv_cons, kv_nil] at ih
    rw [go_head M l_truchmanref01_Name_0.eq_1]
    simp (maxSteps := 3000000) (maxDischargeDepth := 6) +contextual -implicitDefEqProofs only [amC M, ↓amD, Nat.reduceBEq, Nat.reduceAdd, env, fargs, q_truchmanref01_Name, hx, hd, hi, ih, wrap_s hi hs, List.all_cons, hc, inN, dlt]
    rw [slc_na]; congr 1; simp only [Bool.not_and, Bool.not_or, Bool.not_not]
theorem run_isName (hB : BasE E) {s : Str} (hs : s.length ≤ maxL) (H : List AObj) : M.run f_docs_isName [.str s] H = some (.ret (.bool (nameD s)), H) := by
  rw [run_c M hB.docs_isName rfl (c := c_docs_isName) rfl, c_docs_isName]
  have hl := fun k He => nml M (s := s) hs (cut_refl H) k s.length 0 He (by omega)
  simp only [kv_cons, kv_nil, Int.ofNat_zero, List.drop_zero] at hl
  cases s with
  | nil => simp (maxSteps := 3000000) (maxDischargeDepth := 6) +contextual -implicitDefEqProofs only [amC M, ↓amD, Nat.reduceBEq, Nat.reduceAdd, env, fargs, q_docs_isName, hl, nameD, (show (([] : Str) == []) = true from rfl)]
  | cons c t =>
    simp (maxSteps := 3000000) (maxDischargeDepth := 6) +contextual -implicitDefEqProofs only [amC M, ↓amD, Nat.reduceBEq, Nat.reduceAdd, env, fargs, q_docs_isName, hl, nameD, dlt, List.getElem?_cons_zero, (show ((c :: t) == ([] : Str)) = false from rfl)]
    simp only [Bool.not_or, Bool.not_not]
theorem run_Name (hB : BasE E) {s : Str} (hs : s.length ≤ maxL) (H : List AObj) : M.run f_truchmanref01_Name [.str s] H = some (.ret (.bool (nameD s)), H) := by
  rw [run_c M hB.truchmanref01_Name rfl (c := c_truchmanref01_Name) rfl, c_truchmanref01_Name]
  have hl := fun k He => rnl M (s := s) hs (cut_refl H) k s.length 0 He (by omega)
  simp only [kv_cons, kv_nil, Int.ofNat_zero, List.drop_zero] at hl
  cases s with
  | nil => simp (maxSteps := 3000000) (maxDischargeDepth := 6) +contextual -implicitDefEqProofs only [amC M, ↓amD, Nat.reduceBEq, Nat.reduceAdd, env, fargs, q_truchmanref01_Name, hl, nameD, List.length_nil, (show ((((0 : Nat) : Int)) == 0) = true from rfl)]
  | cons c t =>
    have h0 : (((c :: t).length : Int) == 0) = false := by simp; omega
    simp (maxSteps := 3000000) (maxDischargeDepth := 6) +contextual -implicitDefEqProofs only [amC M, ↓amD, Nat.reduceBEq, Nat.reduceAdd, env, fargs, q_truchmanref01_Name, hl, nameD, dlt, List.getElem?_cons_zero, h0]
    simp only [Bool.not_or, Bool.not_not]

end Go.Am
end

section
set_option linter.unusedSimpArgs false
set_option linter.unusedVariables false
set_option maxRecDepth 100000
set_option maxHeartbeats 4000000
namespace Go.Am
open Go.RowKit
attribute [local congr] dsel_congr sel_c1 slc_cong gsel_congr go_congr aft_congr aftD_congr condR_congr backR_congr inR_congr at2_congr
variable {E : REnv} (M : Mach cdec E)

/-! Heaps that have grown -/
def Pre (H0 G : List AObj) : Prop := H0.length ≤ G.length ∧ ∀ i, i < H0.length → G[i]? = H0[i]?
theorem Pre.refl (H : List AObj) : Pre H H := ⟨Nat.le_refl _, fun _ _ => rfl⟩
theorem Pre.cut {H0 G : List AObj} (h : Pre H0 G) : CutOk H0 G := ⟨h.1, fun i x hi hx => .inl (by rw [← h.2 i hi]; exact hx)⟩
theorem Pre.take {H0 G : List AObj} (h : Pre H0 G) : G.take H0.length = H0 := by
  refine List.ext_getElem? fun i => ?_
  rw [List.getElem?_take]
  split
  · rename_i hi; exact h.2 i hi
  · rename_i hi; rw [List.getElem?_eq_none (by omega)]
theorem Pre.trans {A B C : List AObj} (h : Pre A B) (h' : Pre B C) : Pre A C := ⟨Nat.le_trans h.1 h'.1, fun i hi => by rw [h'.2 i (Nat.lt_of_lt_of_le hi h.1), h.2 i hi]⟩
theorem Pre.app {H0 G : List AObj} (h : Pre H0 G) (L : List AObj) : Pre H0 (G ++ L) := ⟨by have := h.1; simp; omega, fun i hi => by
  have := h.1
  rw [List.getElem?_append_left (by omega)]; exact h.2 i hi⟩
theorem Pre.set {H0 G : List AObj} (h : Pre H0 G) {id : Nat} (hid : H0.length ≤ id) (o : AObj) : Pre H0 (G.set id o) := ⟨by simpa using h.1, fun i hi => by
  rw [List.getElem?_set_ne (by omega)]; exact h.2 i hi⟩
/-- A heap that is the same ahead of a place, but for one object. -/
def But (b p : Nat) (G G' : List AObj) : Prop := G.length ≤ G'.length ∧ ∀ i, i < b → i ≠ p → G'[i]? = G[i]?
theorem But.refl (b p : Nat) (G : List AObj) : But b p G G := ⟨Nat.le_refl _, fun _ _ _ => rfl⟩
theorem But.pre {H0 G G' : List AObj} {b p : Nat} (h : But b p G G') (hp : Pre H0 G) (hb : H0.length ≤ b) (hq : H0.length ≤ p) : Pre H0 G' :=
  ⟨Nat.le_trans hp.1 h.1, fun i hi => by rw [h.2 i (by omega) (by omega)]; exact hp.2 i hi⟩

theorem lt_get {G : List AObj} {i : Nat} {x : AObj} (h : G[i]? = some x) : i < G.length := (List.getElem?_eq_some_iff.1 h).1
theorem set_app {G : List AObj} {i : Nat} (h : i < G.length) (o : AObj) (L : List AObj) : (G ++ L).set i o = G.set i o ++ L := by rw [List.set_append_left _ _ h]
theorem set_get1 {G : List AObj} {i : Nat} (h : i < G.length) (o : AObj) : (G.set i o)[i]? = some o := List.getElem?_set_self h
theorem get_setL {G : List AObj} {i : Nat} (h : i < G.length) (o : AObj) (L : List AObj) : (G.set i o ++ L)[i]? = some o := by
  rw [List.getElem?_append_left (by simpa using h)]; exact set_get1 h o
theorem cut_set0 {G : List AObj} {i : Nat} {o : AObj} (hw : WkObj G.length o) : CutOk G (G.set i o) := by
  refine ⟨by simp, fun j x hj hx => ?_⟩
  rw [List.getElem?_set] at hx
  split at hx
  · split at hx
    · cases hx; exact .inr hw
    · cases hx
  · exact .inl hx
theorem cut_setL {G : List AObj} {i : Nat} {o : AObj} (ho : WkObj G.length o) (L : List AObj) : CutOk G (G.set i o ++ L) := cut_more (cut_set0 ho) L
theorem take_setL {G : List AObj} {i : Nat} (o : AObj) (L : List AObj) : (G.set i o ++ L).take G.length = G.set i o := by
  rw [List.take_append_of_le_length (by simp)]; exact List.take_of_length_le (by simp)
theorem wk_cells2 (n : Nat) (b e : Bool) (T : TypeId) : WkObj n (.cells [.bool b, .bool e] T) := by
  intro c hc
  simp at hc
  rcases hc with rfl | rfl <;> exact wk_bool _ _

/-! Carried tags -/
def opensP (x : Piece) : Bool := (x.kind == 2) && x.car
def closesP (x : Piece) : Bool := (x.kind == 3) && x.car
def takesB (b e : Bool) (x : Piece) : Bool := !(opensP x && b || e && !closesP x)
theorem run_takes (hB : BasE E) {G : List AObj} {c : Nat} {b e : Bool} {T : TypeId} (hc : G[c]? = some (.cells [.bool b, .bool e] T)) (x : Piece) :
    M.run f_docs_carried_takes [.ptr c 0, .agg x.row] G = some (.ret (.bool (takesB b e x)), if takesB b e x = true then G.set c (.cells [.bool (b || !opensP x), .bool (e || closesP x)] T) else G) := by
  rw [run_c M hB.docs_carried_takes rfl (c := c_docs_carried_takes) rfl, c_docs_carried_takes]
  have hl := lt_get hc
  have g1 := fun L => hp_getl (L := L) hc
  have g2 := get_setL hl
  have s1 := set_app hl
  have s2 : ∀ (o o' : AObj) (L : List AObj), (G.set c o ++ L).set c o' = G.set c o' ++ L := fun o o' L => by rw [set_app (by simpa using hl), List.set_set]
  have l0 : ∀ b e : Bool, rload none [.bool b, .bool e] 0 = some (.bool b) := fun _ _ => rfl
  have l1 : ∀ b e : Bool, rload none [.bool b, .bool e] 1 = some (.bool e) := fun _ _ => rfl
  have e1 : ∀ b e b' : Bool, setRow [.bool b, .bool e] 0 [.bool b'] = [.bool b', .bool e] := fun _ _ _ => rfl
  have e2 : ∀ b e b' : Bool, setRow [.bool b, .bool e] 1 [.bool b'] = [.bool b, .bool b'] := fun _ _ _ => rfl
  have hq : ((x.kind == 2) && x.car) = opensP x := rfl
  have hq2 : ((x.kind == 3) && x.car) = closesP x := rfl
  have ck : ∀ b e L, CutOk G (G.set c (.cells [.bool b, .bool e] T) ++ L) := fun b e L => cut_setL (wk_cells2 _ _ _ _) L
  have tk := fun o L => take_setL (G := G) (i := c) o L
  cases hcase : (opensP x && b || e && !closesP x) with
  | true =>
    rw [takesB, hcase]
    simp (maxSteps := 3000000) (maxDischargeDepth := 6) +contextual -implicitDefEqProofs only [amC M, ↓amD, Nat.reduceBEq, Nat.reduceAdd, env, fargs, q_docs_carried_takes, amG, AV.cell, Nat.reduceMul, Nat.reduceLeDiff, qPiece, hp_get0, rnc, g1, g2, s1, s2, l0, l1, e1, e2, hq, hq2, hcase, ck, tk, cut_app, hp_take]
  | false =>
    rw [takesB, hcase]
    simp (maxSteps := 3000000) (maxDischargeDepth := 6) +contextual -implicitDefEqProofs only [amC M, ↓amD, Nat.reduceBEq, Nat.reduceAdd, env, fargs, q_docs_carried_takes, amG, AV.cell, Nat.reduceMul, Nat.reduceLeDiff, qPiece, hp_get0, rnc, g1, g2, s1, s2, l0, l1, e1, e2, hq, hq2, hcase, ck, tk, cut_app, hp_take]
end Go.Am
end

section
set_option linter.unusedSimpArgs false
set_option linter.unusedVariables false
set_option maxRecDepth 100000
set_option maxHeartbeats 4000000
namespace Go.Am
open Go.RowKit
attribute [local congr] dsel_congr sel_c1 slc_cong gsel_congr go_congr aft_congr aftD_congr condR_congr backR_congr inR_congr at2_congr
variable {E : REnv} (M : Mach cdec E)

/-! The stack of open tags: its top is first here -/
def strC (l : List Str) : List AV := l.map .str
def StkV (b : Nat) (G : List AObj) (v : AV) (st : List Str) : Prop :=
  (st = [] ∧ v = .slice .nil 1 []) ∨ ∃ (id : Nat) (junk : List AV), b ≤ id ∧ v = .rslice id 0 st.length 1 true ∧ G[id]? = some (.cells (strC st.reverse ++ junk) t_string)
theorem strC_len (l : List Str) : (strC l).length = l.length := by simp [strC]
theorem strC_app (l m : List Str) : strC (l ++ m) = strC l ++ strC m := by simp [strC]
theorem rowsOk_str (s : Str) : rowsOk 1 [[.str s]] = true := rfl
/-- A string is put on a stack. -/
theorem ap_stk {b : Nat} {G : List AObj} {v : AV} {st : List Str} (h : StkV b G v st) (hb : b ≤ G.length) (hl : st.length ≤ 1000000) (s : Str) :
    ∃ v' G', rap true G t_string 1 16 false v (.slice .full 1 [[.str s]]) = some (v', G') ∧ StkV b G' v' (s :: st) ∧ G.length ≤ G'.length ∧ ∀ i, i < b → G'[i]? = G[i]? := by
  rcases h with ⟨rfl, rfl⟩ | ⟨id, junk, hid, rfl, hg⟩
  · refine ⟨.rslice G.length 0 1 1 true, G ++ [.cells [.str s] t_string], ?_, .inr ⟨G.length, [], hb, rfl, by rw [hp_get0]; rfl⟩, by simp, fun i hi => List.getElem?_append_left (by omega)⟩
    simp only [rap, rappM, rsrc, or_true, if_true, rowsOk_str]
    rw [if_pos (by simp)]
    rfl
  · have hlt := lt_get hg
    have hlen : st.length * 1 ≤ (strC st.reverse ++ junk).length := by rw [List.length_append, strC_len, List.length_reverse]; omega
    refine ⟨.rslice G.length 0 (st.length + 1) 1 true, G.set id .dead ++ [.cells (strC (s :: st).reverse) t_string], ?_, .inr ⟨G.length, [], hb, rfl, ?_⟩, by simp, fun i hi => ?_⟩
    · simp only [rap, rappM, rsrc, or_true, if_true, rowsOk_str, hg]
      rw [if_pos ⟨trivial, trivial, hlen, by simp; omega, by simp; omega⟩]
      simp only [Nat.mul_one]
      rw [List.take_left' (by rw [strC_len, List.length_reverse]), List.reverse_cons, strC_app]
      rfl
    · rw [List.append_nil, show G.length = (G.set id .dead).length by simp, hp_get0]; rfl
    · rw [List.getElem?_append_left (by simp; omega), List.getElem?_set_ne (by omega)]
theorem len_stk {b : Nat} {G : List AObj} {v : AV} {st : List Str} (h : StkV b G v st) (H : List AObj) : rlen H .sl v = some (.int .i64 (st.length : Int)) := by
  rcases h with ⟨rfl, rfl⟩ | ⟨id, junk, hid, rfl, hg⟩ <;> rfl
/-- The top of a stack; what is below it. -/
theorem top_stk {b : Nat} {G : List AObj} {v : AV} {x : Str} {st : List Str} (h : StkV b G v (x :: st)) :
    (∃ p o cs, rias 1 v (.int .i64 (st.length : Int)) = some (.ptr p o) ∧ b ≤ p ∧ G[p]? = some (.cells cs t_string) ∧ rload none cs o = some (.str x)) ∧ ∃ v', rsll 1 v none (some (.int .i64 (st.length : Int))) none = some v' ∧ StkV b G v' st := by
  rcases h with ⟨h, _⟩ | ⟨id, junk, hid, rfl, hg⟩
  · cases h
  have e : strC (x :: st).reverse ++ junk = strC st.reverse ++ (.str x :: junk) := by rw [List.reverse_cons, strC_app, List.append_assoc]; rfl
  have hl : (strC st.reverse).length = st.length := by rw [strC_len, List.length_reverse]
  refine ⟨⟨id, 0 + st.length * 1, _, ?_, hid, hg, ?_⟩, .rslice id 0 st.length 1 true, ?_, .inr ⟨id, .str x :: junk, hid, rfl, by rw [hg, e]⟩⟩
  · simp only [rias]
    rw [if_pos ⟨trivial, by omega, by simp; omega⟩]
    simp
  · simp only [rload, e, Nat.zero_add, Nat.mul_one]
    rw [List.getElem?_append_right (by omega), hl, Nat.sub_self]; rfl
  · have h1 : abound (some (.int .i64 (st.length : Int))) (x :: st).length = some st.length := by simp [abound]
    simp only [rsll, h1, (show abound none 0 = some 0 from rfl)]
    cases st with
    | nil => rfl
    | cons y t => rw [if_pos (by simp)]; simp
/-- The stack stays where nothing at or behind b is turned. -/
theorem StkV.stay {b : Nat} {G G' : List AObj} {v : AV} {st : List Str} (h : StkV b G v st) (hs : ∀ i, b ≤ i → i < G.length → G'[i]? = G[i]?) : StkV b G' v st := by
  rcases h with ⟨rfl, rfl⟩ | ⟨id, junk, hid, rfl, hg⟩
  · exact .inl ⟨rfl, rfl⟩
  · exact .inr ⟨id, junk, hid, rfl, by rw [hs id hid (lt_get hg)]; exact hg⟩

theorem run_push (hB : BasE E) {b p : Nat} {G : List AObj} {v : AV} {T : TypeId} {st : List Str} (hp : G[p]? = some (.cells [v] T)) (hpb : p < b) (hb : b ≤ G.length) (h : StkV b G v st) (hl : st.length ≤ 1000000) (s : Str) :
    ∃ v' G', M.run f_docs_stack_string_push [.ptr p 0, .str s] G = some (.ret (.tuple []), G') ∧ G'[p]? = some (.cells [v'] T) ∧ StkV b G' v' (s :: st) ∧ But b p G G' := by
  obtain ⟨v', G1, h1, h2, h3, h4⟩ := ap_stk h hb hl s
  have hp1 : G1[p]? = some (.cells [v] T) := by rw [h4 p hpb]; exact hp
  have hlt := lt_get hp1
  refine ⟨v', G1.set p (.cells [v'] T), ?_, List.getElem?_set_self hlt, h2.stay fun i hi _ => by rw [List.getElem?_set_ne (by omega)], by simpa using h3, fun i hi hne => by rw [List.getElem?_set_ne (by omega)]; exact h4 i hi⟩
  rw [run_c M hB.docs_stack_string_push rfl (c := c_docs_stack_string_push) rfl, c_docs_stack_string_push]
  have hcell : v'.cell = true := by
    rcases h2 with ⟨h, _⟩ | ⟨id, _, _, rfl, _⟩
    · cases h
    · rfl
  have hac : acells v' = some [v'] := by
    rcases h2 with ⟨h, _⟩ | ⟨id, _, _, rfl, _⟩
    · cases h
    · rfl
  have l0 : ∀ x : AV, rload none [x] 0 = some x := fun _ => rfl
  have s0 : ∀ x y : AV, setRow [x] 0 [y] = [y] := fun _ _ => rfl
  have hst : stO 1 G1 p 0 [v'] (some (.cells [v] T)) = some (G1.set p (.cells [v'] T)) := by
    simp only [stO]
    rw [if_pos ⟨rfl, by simp, by simp [hcell]⟩]; rfl
  simp (maxSteps := 3000000) (maxDischargeDepth := 6) +contextual -implicitDefEqProofs only [amC M, ↓amD, Nat.reduceBEq, Nat.reduceAdd, env, fargs, q_docs_stack_string_push, amG, AV.cell, Nat.reduceMul, Nat.reduceLeDiff, rnc, hp, l0, s0, h1, hp1, hac, hst, (show ∀ H, runit (some H) = some (undefA, H) from fun _ => rfl)]
def popB (st : List Str) (s : Str) : Bool := match st with
  | [] => false
  | x :: _ => x == s
theorem run_pop (hB : BasE E) {b p : Nat} {G : List AObj} {v : AV} {T : TypeId} {st : List Str} (hp : G[p]? = some (.cells [v] T)) (hpb : p < b) (hb : b ≤ G.length) (h : StkV b G v st) (hl : st.length ≤ 1000000) (s : Str) :
    ∃ v' G', M.run f_docs_stack_string_pop [.ptr p 0, .str s] G = some (.ret (.bool (popB st s)), G') ∧ G'[p]? = some (.cells [v'] T) ∧ StkV b G' v' (if popB st s = true then st.tail else st) ∧ G'.length = G.length ∧ ∀ i, i ≠ p → G'[i]? = G[i]? := by
  have hlt := lt_get hp
  have l0 : ∀ x : AV, rload none [x] 0 = some x := fun _ => rfl
  have s0 : ∀ x y : AV, setRow [x] 0 [y] = [y] := fun _ _ => rfl
  have hlen := len_stk h
  cases st with
  | nil =>
    refine ⟨v, G, ?_, hp, h, rfl, fun _ _ => rfl⟩
    rw [run_c M hB.docs_stack_string_pop rfl (c := c_docs_stack_string_pop) rfl, c_docs_stack_string_pop]
    have hlen0 : ∀ H, rlen H .sl v = some (.int .i64 0) := hlen
    simp (maxSteps := 3000000) (maxDischargeDepth := 6) +contextual -implicitDefEqProofs only [amC M, ↓amD, Nat.reduceBEq, Nat.reduceAdd, env, fargs, q_docs_stack_string_pop, rnc, hp, l0, hlen0, popB, beq_self_eq_true, cut_refl, hp_self]
  | cons x st =>
    obtain ⟨⟨q, o, cs, t1, t2, t3, t3'⟩, v', t4, t5⟩ := top_stk h
    have hw : IntKind.i64.wrap ((((x :: st).length : Nat) : Int) - 1) = (st.length : Int) := by
      simp only [List.length_cons] at hl ⊢
      rw [wrap_i64 (by omega) (by omega)]; omega
    have h0 : ((((x :: st).length : Nat) : Int) == 0) = false := by simp; omega
    have hw2 : IntKind.i64.wrap (((st.length + 1 : Nat) : Int) - 1) = (st.length : Int) := hw
    have h02 : (((st.length + 1 : Nat) : Int) == 0) = false := h0
    cases hx : x == s with
    | false =>
      refine ⟨v, G, ?_, hp, by rw [popB, hx]; exact h, rfl, fun _ _ => rfl⟩
      rw [run_c M hB.docs_stack_string_pop rfl (c := c_docs_stack_string_pop) rfl, c_docs_stack_string_pop]
      simp (maxSteps := 3000000) (maxDischargeDepth := 6) +contextual -implicitDefEqProofs only [amC M, ↓amD, Nat.reduceBEq, Nat.reduceAdd, env, fargs, q_docs_stack_string_pop, rnc, hp, l0, hlen, popB, hw, h0, hw2, h02, t1, t3, t3', hx, cut_refl, hp_self]
    | true =>
      refine ⟨v', G.set p (.cells [v'] T), ?_, List.getElem?_set_self hlt, by rw [popB, hx]; exact t5.stay fun i hi _ => by rw [List.getElem?_set_ne (by omega)], by simp, fun i hne => by rw [List.getElem?_set_ne (by omega)]⟩
      have hcell : v'.cell = true ∧ acells v' = some [v'] ∧ Wk G.length v' v' := by
        rcases t5 with ⟨_, rfl⟩ | ⟨id, _, _, rfl, hg⟩
        · exact ⟨rfl, rfl, wk_slice trivial (rowsWk_nil _)⟩
        · exact ⟨rfl, rfl, wk_rslice (lt_get hg)⟩
      have hwk : WkObj G.length (.cells [v'] T) := by
        intro c hc
        simp at hc; subst hc; exact hcell.2.2
      rw [run_c M hB.docs_stack_string_pop rfl (c := c_docs_stack_string_pop) rfl, c_docs_stack_string_pop]
      have hst : stO 1 G p 0 [v'] (some (.cells [v] T)) = some (G.set p (.cells [v'] T)) := by
        simp only [stO]
        rw [if_pos ⟨rfl, by simp, by simp [hcell.1]⟩]; rfl
      simp (maxSteps := 3000000) (maxDischargeDepth := 6) +contextual -implicitDefEqProofs only [amC M, ↓amD, Nat.reduceBEq, Nat.reduceAdd, env, fargs, q_docs_stack_string_pop, amG, AV.cell, Nat.reduceMul, Nat.reduceLeDiff, rnc, hp, l0, s0, hlen, popB, hw, h0, hw2, h02, t1, t3, t3', t4, hx, hst, (show ∀ H, runit (some H) = some (undefA, H) from fun _ => rfl), hcell.2.1, cut_set0 hwk]
      rw [List.take_of_length_le (by simp)]
end Go.Am
end

section
set_option linter.unusedSimpArgs false
set_option linter.unusedVariables false
set_option maxRecDepth 100000
set_option maxHeartbeats 4000000
namespace Go.Am
open Go.RowKit
attribute [local congr] dsel_congr sel_c1 slc_cong gsel_congr go_congr aft_congr aftD_congr condR_congr backR_congr inR_congr at2_congr
variable {E : REnv} (M : Mach cdec E)

/-! Lists of pieces that are valid -/
def argE (x : Piece) : Bool := decide (x.kind < 1) || decide (5 < x.kind)
def carE (x : Piece) : Bool := x.car && !(x.kind == 2) && !(x.kind == 3)
def frmE (p : Bool) (x : Piece) : Bool := (x.kind == 1) && ((x.text == []) || !textF x.text || p)
def namE (x : Piece) : Bool := !(x.kind == 1) && !nameD x.text
def stP (x : Piece) (st : List Str) : List Str := if (x.kind == 3) = true then st.tail else st
def chkL : List Piece → Bool → Bool → Bool → List Str → Int
  | [], _, _, _, st => sel (decide ((0 : Int) < (st.length : Int))) 9 0
  | x :: l, p, b, e, st => sel (argE x) 1 (sel (carE x) 1 (sel (frmE p x) 4 (sel (namE x) 5 (sel (takesB b e x) (sel ((x.kind == 3) && !popB st x.text) 9
      (sel (x.kind == 2) (sel (decide ((16 : Int) < ((x.text :: stP x st).length : Int))) 3 (chkL l (x.kind == 1) (b || !opensP x) (e || closesP x) (x.text :: stP x st)))
        (chkL l (x.kind == 1) (b || !opensP x) (e || closesP x) (stP x st)))) 8))))
def dP : Piece := ⟨0, [], false⟩
def prevT (l : List Piece) (i : Nat) : Bool := decide ((0 : Int) < (i : Int)) && ((l.getD (i - 1) dP).kind == 1)
theorem prevT_succ {l : List Piece} {i : Nat} {x : Piece} (h : l[i]? = some x) : prevT l (i + 1) = (x.kind == 1) := by
  have h1 : decide ((0 : Int) < ((i + 1 : Nat) : Int)) = true := decide_eq_true (by omega)
  simp [prevT, h1, List.getD, h]
theorem prevT_zero (l : List Piece) : prevT l 0 = false := rfl
abbrev TxtOk (l : List Piece) : Prop := ∀ x ∈ l, x.text.length ≤ 70368744177664

theorem ckl (hB : BasE E) (hX : ExtD M) {l : List Piece} {tg : Tag} (hl : l.length ≤ 1000000) (ht : TxtOk l) {H0 : List AObj} {bd p c : Nat} (hp0 : H0.length ≤ p) (hc0 : H0.length ≤ c) (hpb : p < bd) (hcb : c < bd) (hpc : p ≠ c) {k : List Fra}
    (hk : ∀ (G : List AObj) (v : AV) (st : List Str), G[p]? = some (.cells [v] t_docs_stack_string) → StkV bd G v st → Pre H0 G → M.go a_docs_CheckPieces H0 k (kv [(3, .ptr p 0)]) G = some (.ret (.int .u8 (sel (decide ((0 : Int) < (st.length : Int))) 9 0)), H0)) :
    ∀ (n i : Nat) (G He : List AObj) (v : AV) (st : List Str) (b e : Bool), i + n = l.length → Pre H0 G → bd ≤ G.length → G[p]? = some (.cells [v] t_docs_stack_string) → G[c]? = some (.cells [.bool b, .bool e] t_docs_carried) → StkV bd G v st → st.length ≤ 16 →
    M.go a_docs_CheckPieces H0 (.c l_docs_CheckPieces_0 :: .lp ⟨(some [0, 3, 4, 10, 11, 12]), [], false⟩ l_docs_CheckPieces_0 He :: .blk 0 :: .c (.lv [3]) :: k) (kv [(0, .slice tg 3 (l.map Piece.row)), (3, .ptr p 0), (4, .ptr c 0), (10, .slice tg 3 (l.map Piece.row)), (11, .int .i64 l.length), (12, .int .i64 i)]) G =
      some (.ret (.int .u8 (chkL (l.drop i) (prevT l i) b e st)), H0) := by
  intro n
  induction n with
  | zero =>
    intro i G He v st b e h hP hb hgp hgc hst h16
    obtain rfl : i = l.length := by omega
    rw [List.drop_length, chkL]
    have hk1 := hk G v st hgp hst hP
    simp only [kv_cons, kv_nil] at hk1
    rw [go_head M l_docs_CheckPieces_0.eq_1]
    simp (maxSteps := 3000000) (maxDischargeDepth := 6) +contextual -implicitDefEqProofs only [amC M, ↓amD, Nat.reduceBEq, Nat.reduceAdd, env, fargs, q_docs_CheckPieces, Nat.lt_irrefl, hk1]
  | succ n IH =>
    intro i G He v st b e h hP hb hgp hgc hst h16
    have hi : i < l.length := by omega
    have hx : l[i]? = some l[i] := List.getElem?_eq_getElem hi
    have hd : l.drop i = l[i] :: l.drop (i + 1) := List.drop_eq_getElem_cons hi
    have htx := ht _ (List.getElem_mem hi)
    have hsu := prevT_succ hx
    rw [hd]
    generalize l[i] = x at *
    have htm : x.text.length ≤ maxL := by simp only [maxL]; omega
    have hws := wrap_s hi (show l.length ≤ maxL by simp only [maxL]; omega)
    have hw1 : decide ((0 : Int) < (i : Int)) = true → IntKind.i64.wrap ((i : Int) - 1) = ((i - 1 : Nat) : Int) := fun h0 => wrap_p1 (by have := of_decide_eq_true h0; omega) (by simp only [maxL]; omega)
    have hi1 : i - 1 < l.length := by omega
    have hx1 : l[i - 1]? = some (l.getD (i - 1) dP) := by rw [List.getD, List.getElem?_eq_getElem hi1]; rfl
    have hia : ∀ k : IntKind, rias 3 (.slice tg 3 (l.map Piece.row)) (.int k ((i - 1 : Nat) : Int)) = some (.vptr 3 (l.map Piece.row) (i - 1) 0) := fun k => ias_row hi1
    have hT := fun H => run_isText M hB hX htm H
    have hN := fun H => run_isName M hB htm H
    have hct : ∀ L, CutOk H0 (G ++ L) := fun L => (hP.app L).cut
    have htk : ∀ L, (G ++ L).take H0.length = H0 := fun L => (hP.app L).take
    have hgx : ∀ T, (G ++ [AObj.cells x.row T])[G.length]? = some (.cells x.row T) := fun T => by rw [hp_get0]; rfl
    rw [chkL]
    cases ha : argE x with
    | true =>
      have ha' : (decide (x.kind < 1) || decide (5 < x.kind)) = true := ha
      rw [go_head M l_docs_CheckPieces_0.eq_1]
      simp (maxSteps := 3000000) (maxDischargeDepth := 6) +contextual -implicitDefEqProofs only [amC M, ↓amD, Nat.reduceBEq, Nat.reduceAdd, env, fargs, q_docs_CheckPieces, amG, AV.cell, Nat.reduceMul, Nat.reduceLeDiff, hi, hx, ias_row hi, qPiece, hp_get0, ha', hct, htk]
    | false =>
      have ha' : (decide (x.kind < 1) || decide (5 < x.kind)) = false := ha
      simp only [sel_false]
      cases hc : carE x with
      | true =>
        have hc' : (x.car && !(x.kind == 2) && !(x.kind == 3)) = true := hc
        rw [go_head M l_docs_CheckPieces_0.eq_1]
        simp (maxSteps := 3000000) (maxDischargeDepth := 6) +contextual -implicitDefEqProofs only [amC M, ↓amD, Nat.reduceBEq, Nat.reduceAdd, env, fargs, q_docs_CheckPieces, amG, AV.cell, Nat.reduceMul, Nat.reduceLeDiff, hi, hx, ias_row hi, qPiece, hp_get0, ha', hc', hct, htk]
      | false =>
        have hc' : (x.car && !(x.kind == 2) && !(x.kind == 3)) = false := hc
        simp only [sel_false]
        cases hf : frmE (prevT l i) x with
        | true =>
          have hf' : ((x.kind == 1) && ((x.text == []) || !textF x.text || (decide ((0 : Int) < (i : Int)) && ((l.getD (i - 1) dP).kind == 1)))) = true := hf
          rw [go_head M l_docs_CheckPieces_0.eq_1]
          simp (maxSteps := 3000000) (maxDischargeDepth := 6) +contextual -implicitDefEqProofs only [amC M, ↓amD, Nat.reduceBEq, Nat.reduceAdd, env, fargs, q_docs_CheckPieces, amG, AV.cell, Nat.reduceMul, Nat.reduceLeDiff, hi, hx, ias_row hi, qPiece, hp_get0, ha', hc', hf', hT, hw1, hia, hx1, hct, htk]
        | false =>
          have hf' : ((x.kind == 1) && ((x.text == []) || !textF x.text || (decide ((0 : Int) < (i : Int)) && ((l.getD (i - 1) dP).kind == 1)))) = false := hf
          simp only [sel_false]
          cases hn : namE x with
          | true =>
            have hn' : (!(x.kind == 1) && !nameD x.text) = true := hn
            rw [go_head M l_docs_CheckPieces_0.eq_1]
            simp (maxSteps := 3000000) (maxDischargeDepth := 6) +contextual -implicitDefEqProofs only [amC M, ↓amD, Nat.reduceBEq, Nat.reduceAdd, env, fargs, q_docs_CheckPieces, amG, AV.cell, Nat.reduceMul, Nat.reduceLeDiff, hi, hx, ias_row hi, qPiece, hp_get0, ha', hc', hf', hT, hw1, hia, hx1, hct, htk, hn', hN]
          | false =>
            have hn' : (!(x.kind == 1) && !nameD x.text) = false := hn
            simp only [sel_false]
            have hcl := lt_get hgc
            have htak := run_takes M hB (c := c) (b := b) (e := e) (T := t_docs_carried) (G := G ++ [.cells x.row t_api_Piece]) (hp_getl hgc) x
            cases htb : takesB b e x with
            | false =>
              simp only [htb, Bool.false_eq_true, if_false] at htak
              rw [go_head M l_docs_CheckPieces_0.eq_1]
              simp (maxSteps := 3000000) (maxDischargeDepth := 6) +contextual -implicitDefEqProofs only [amC M, ↓amD, Nat.reduceBEq, Nat.reduceAdd, env, fargs, q_docs_CheckPieces, amG, AV.cell, Nat.reduceMul, Nat.reduceLeDiff, hi, hx, ias_row hi, qPiece, hp_get0, ha', hc', hf', hT, hw1, hia, hx1, hct, htk, hn', hN, htak]
            | true =>
              simp only [htb, if_true] at htak
              simp only [sel_true]
              have hcl2 : c < (G ++ [AObj.cells x.row t_api_Piece]).length := by simp; omega
              have hne : c ≠ G.length := by omega
              have q1 : ((G ++ [AObj.cells x.row t_api_Piece]).set c (.cells [.bool (b || !opensP x), .bool (e || closesP x)] t_docs_carried))[p]? = some (.cells [v] t_docs_stack_string) := by
                rw [List.getElem?_set_ne (by omega)]; exact hp_getl hgp
              have q2 : ((G ++ [AObj.cells x.row t_api_Piece]).set c (.cells [.bool (b || !opensP x), .bool (e || closesP x)] t_docs_carried))[c]? = some (.cells [.bool (b || !opensP x), .bool (e || closesP x)] t_docs_carried) := List.getElem?_set_self hcl2
              have q3 : ((G ++ [AObj.cells x.row t_api_Piece]).set c (.cells [.bool (b || !opensP x), .bool (e || closesP x)] t_docs_carried))[G.length]? = some (.cells x.row t_api_Piece) := by
                rw [List.getElem?_set_ne hne, hp_get0]; rfl
              have q4 : Pre H0 ((G ++ [AObj.cells x.row t_api_Piece]).set c (.cells [.bool (b || !opensP x), .bool (e || closesP x)] t_docs_carried)) := (hP.app _).set hc0 _
              have q5 : StkV bd ((G ++ [AObj.cells x.row t_api_Piece]).set c (.cells [.bool (b || !opensP x), .bool (e || closesP x)] t_docs_carried)) v st := hst.stay fun j hj hj2 => by
                rw [List.getElem?_set_ne (by omega), List.getElem?_append_left hj2]
              have q6 : bd ≤ ((G ++ [AObj.cells x.row t_api_Piece]).set c (.cells [.bool (b || !opensP x), .bool (e || closesP x)] t_docs_carried)).length := by simp; omega
              have q7 : p ≠ G.length := by have := lt_get hgp; omega
              generalize (G ++ [AObj.cells x.row t_api_Piece]).set c (.cells [.bool (b || !opensP x), .bool (e || closesP x)] t_docs_carried) = G2 at htak q1 q2 q3 q4 q5 q6
              have hct2 := q4.cut
              have htk2 := q4.take
              cases h3 : x.kind == 3 with
              | true =>
                have h2 : (x.kind == 2) = false := by
                  have : x.kind = 3 := by simpa using h3
                  rw [this]; rfl
                obtain ⟨v3, G3, p1, p2, p3, p4, p5⟩ := run_pop M hB q1 hpb q6 q5 (by omega) x.text
                cases hpo : popB st x.text with
                | false =>
                  rw [hpo] at p1
                  have hP3 : Pre H0 G3 := ⟨by rw [p4]; exact q4.1, fun j hj => by rw [p5 j (by omega)]; exact q4.2 j hj⟩
                  have c3 := hP3.cut
                  have t3 := hP3.take
                  rw [go_head M l_docs_CheckPieces_0.eq_1]
                  simp (maxSteps := 3000000) (maxDischargeDepth := 6) +contextual -implicitDefEqProofs only [amC M, ↓amD, Nat.reduceBEq, Nat.reduceAdd, env, fargs, q_docs_CheckPieces, amG, AV.cell, Nat.reduceMul, Nat.reduceLeDiff, hi, hx, ias_row hi, qPiece, hp_get0, ha', hc', hf', hT, hw1, hia, hx1, hct, htk, hn', hN, htak, q3, h3, p1, c3, t3]
                | true =>
                  rw [hpo] at p1
                  simp only [hpo, if_true] at p3
                  have hP3 : Pre H0 G3 := ⟨by rw [p4]; exact q4.1, fun j hj => by rw [p5 j (by omega)]; exact q4.2 j hj⟩
                  have g3 : G3[G.length]? = some (.cells x.row t_api_Piece) := by rw [p5 _ (by omega)]; exact q3
                  have hstp : stP x st = st.tail := if_pos h3
                  have ih := fun He => IH (i + 1) G3 He v3 st.tail (b || !opensP x) (e || closesP x) (by omega) hP3 (by omega) p2 (by rw [p5 c (by omega)]; exact q2) p3 (by simp; omega)
                  rw [hsu] at ih
                  simp only [kv_cons, kv_nil] at ih
                  rw [go_head M l_docs_CheckPieces_0.eq_1]
                  simp (maxSteps := 3000000) (maxDischargeDepth := 6) +contextual -implicitDefEqProofs only [amC M, ↓amD, Nat.reduceBEq, Nat.reduceAdd, env, fargs, q_docs_CheckPieces, amG, AV.cell, Nat.reduceMul, Nat.reduceLeDiff, hi, hx, ias_row hi, qPiece, hp_get0, ha', hc', hf', hT, hw1, hia, hx1, hct, htk, hn', hN, htak, q3, h3, h2, p1, g3, hstp, hws, ih]
              | false =>
                have hstp : stP x st = st := if_neg (by rw [h3]; simp)
                cases h2 : x.kind == 2 with
                | false =>
                  have hc2 : x.car = false := by rw [h2, h3] at hc'; simpa using hc'
                  have ih := fun He => IH (i + 1) G2 He v st (b || !opensP x) (e || closesP x) (by omega) q4 q6 q1 q2 q5 h16
                  rw [hsu] at ih
                  simp only [kv_cons, kv_nil] at ih
                  rw [go_head M l_docs_CheckPieces_0.eq_1]
                  simp (maxSteps := 3000000) (maxDischargeDepth := 6) +contextual -implicitDefEqProofs only [amC M, ↓amD, Nat.reduceBEq, Nat.reduceAdd, env, fargs, q_docs_CheckPieces, amG, AV.cell, Nat.reduceMul, Nat.reduceLeDiff, hi, hx, ias_row hi, qPiece, hp_get0, ha', hc', hf', hT, hw1, hia, hx1, hct, htk, hn', hN, htak, q3, h3, h2, hc2, hstp, hws, ih]
                | true =>
                  obtain ⟨v3, G3, p1, p2, p3, p4⟩ := run_push M hB q1 hpb q6 q5 (by omega) x.text
                  have hP3 : Pre H0 G3 := p4.pre q4 (by omega) hp0
                  have c3 := hP3.cut
                  have t3 := hP3.take
                  have hlen := len_stk p3
                  have l0 : ∀ x : AV, rload none [x] 0 = some x := fun _ => rfl
                  have hlen2 : ∀ H, rlen H .sl v3 = some (.int .i64 ((st.length + 1 : Nat) : Int)) := hlen
                  cases hgt : decide ((16 : Int) < ((x.text :: stP x st).length : Int)) with
                  | true =>
                    have hgt2 : decide ((16 : Int) < ((st.length + 1 : Nat) : Int)) = true := by rw [← hgt, hstp]; rfl
                    rw [go_head M l_docs_CheckPieces_0.eq_1]
                    simp (maxSteps := 3000000) (maxDischargeDepth := 6) +contextual -implicitDefEqProofs only [amC M, ↓amD, Nat.reduceBEq, Nat.reduceAdd, env, fargs, q_docs_CheckPieces, amG, AV.cell, Nat.reduceMul, Nat.reduceLeDiff, hi, hx, ias_row hi, qPiece, hp_get0, ha', hc', hf', hT, hw1, hia, hx1, hct, htk, hn', hN, htak, q3, h3, h2, p1, p2, l0, hlen2, hgt2, c3, t3]
                  | false =>
                    have hgt2 : decide ((16 : Int) < ((st.length + 1 : Nat) : Int)) = false := by rw [← hgt, hstp]; rfl
                    have hle : (x.text :: st).length ≤ 16 := by have := of_decide_eq_false hgt2; simp only [List.length_cons]; omega
                    have ih := fun He => IH (i + 1) G3 He v3 (x.text :: st) (b || !opensP x) (e || closesP x) (by omega) hP3 (by have := p4.1; omega) p2 (by rw [p4.2 c hcb (by omega)]; exact q2) p3 hle
                    rw [hsu] at ih
                    simp only [kv_cons, kv_nil] at ih
                    rw [go_head M l_docs_CheckPieces_0.eq_1]
                    simp (maxSteps := 3000000) (maxDischargeDepth := 6) +contextual -implicitDefEqProofs only [amC M, ↓amD, Nat.reduceBEq, Nat.reduceAdd, env, fargs, q_docs_CheckPieces, amG, AV.cell, Nat.reduceMul, Nat.reduceLeDiff, hi, hx, ias_row hi, qPiece, hp_get0, ha', hc', hf', hT, hw1, hia, hx1, hct, htk, hn', hN, htak, q3, h3, h2, p1, p2, l0, hlen2, hgt2, hstp, hws, ih]
def checkP (l : List Piece) : Int := sel (decide ((512 : Int) < (l.length : Int))) 3 (chkL l false false false [])
theorem run_CheckPieces (hB : BasE E) (hX : ExtD M) {l : Sl Piece} (hl : l.l.length ≤ 1000000) (ht : TxtOk l.l) (H : List AObj) :
    M.run f_docs_CheckPieces [.slice l.tag 3 (l.l.map Piece.row)] H = some (.ret (.int .u8 (checkP l.l)), H) := by
  rw [run_c M hB.docs_CheckPieces rfl (c := c_docs_CheckPieces) rfl, c_docs_CheckPieces]
  cases h5 : decide ((512 : Int) < (l.l.length : Int)) with
  | true => simp (maxSteps := 3000000) (maxDischargeDepth := 6) +contextual -implicitDefEqProofs only [amC M, ↓amD, Nat.reduceBEq, Nat.reduceAdd, env, fargs, q_docs_CheckPieces, h5, checkP]
  | false =>
    have hlp := fun k hk He => ckl M hB hX (tg := l.tag) hl ht (H0 := H) (bd := H.length + 2) (p := H.length) (c := H.length + 1) (Nat.le_refl _) (by omega) (by omega) (by omega) (by omega) (k := k) hk l.l.length 0 (H ++ [.cells [.slice .nil 1 []] t_docs_stack_string, .cells [.bool false, .bool false] t_docs_carried]) He (.slice .nil 1 []) [] false false (by omega) ((Pre.refl H).app _) (by simp) (by rw [hp_get0]; rfl) (by rw [hp_getk]; rfl) (.inl ⟨rfl, rfl⟩) (by simp)
    simp only [kv_cons, kv_nil, Int.ofNat_zero, List.drop_zero, prevT_zero] at hlp
    have l0 : ∀ x : AV, rload none [x] 0 = some x := fun _ => rfl
    simp (maxSteps := 3000000) (maxDischargeDepth := 6) +contextual -implicitDefEqProofs only [amC M, ↓amD, Nat.reduceBEq, Nat.reduceAdd, env, fargs, q_docs_CheckPieces, h5, checkP]
    refine hlp _ (fun G v st hg hs hP => ?_) _
    have hlen := len_stk hs
    have hct := hP.cut
    have htk := hP.take
    simp (maxSteps := 3000000) (maxDischargeDepth := 6) +contextual -implicitDefEqProofs only [amC M, ↓amD, Nat.reduceBEq, Nat.reduceAdd, env, fargs, q_docs_CheckPieces, hg, l0, hlen, hct, htk]
end Go.Am
end

section
set_option linter.unusedSimpArgs false
set_option linter.unusedVariables false
set_option maxRecDepth 100000
set_option maxHeartbeats 4000000
namespace Go.Am
open Go.RowKit
attribute [local congr] dsel_congr sel_c1 slc_cong gsel_congr go_congr aft_congr aftD_congr condR_congr backR_congr inR_congr at2_congr
variable {E : REnv} (M : Mach cdec E)

theorem slc_or {α : Type} (b p : Bool) (x y : α) : slc b y (slc p y x) = slc (b || p) y x := by cases b <;> rfl
def aloneE (p : Bool) (x : Piece) : Int := sel (argE x) 1 (sel (carE x) 1 (sel (frmE p x) 4 (sel (namE x) 5 0)))
theorem run_alone (hB : BasE E) {l : List Piece} {tg : Tag} (hl : l.length ≤ 1000000) (ht : TxtOk l) {i : Nat} {x : Piece} (hx : l[i]? = some x) (H : List AObj) :
    M.run f_truchmanref01_alone [.slice tg 3 (l.map Piece.row), .int .i64 i] H = some (.ret (.int .u8 (aloneE (prevT l i) x)), H) := by
  have hi : i < l.length := (List.getElem?_eq_some_iff.1 hx).1
  have htx := ht _ (List.mem_of_getElem? hx)
  have htm : x.text.length ≤ maxL := by simp only [maxL]; omega
  have hw1 : decide ((0 : Int) < (i : Int)) = true → IntKind.i64.wrap ((i : Int) - 1) = ((i - 1 : Nat) : Int) := fun h0 => wrap_p1 (by have := of_decide_eq_true h0; omega) (by simp only [maxL]; omega)
  have hi1 : i - 1 < l.length := by omega
  have hx1 : l[i - 1]? = some (l.getD (i - 1) dP) := by rw [List.getD, List.getElem?_eq_getElem hi1]; rfl
  have hia : ∀ k : IntKind, rias 3 (.slice tg 3 (l.map Piece.row)) (.int k ((i - 1 : Nat) : Int)) = some (.vptr 3 (l.map Piece.row) (i - 1) 0) := fun k => ias_row hi1
  have hT := fun H => run_Text M hB htx H
  have hN := fun H => run_Name M hB htm H
  rw [run_c M hB.truchmanref01_alone rfl (c := c_truchmanref01_alone) rfl, c_truchmanref01_alone]
  simp (maxSteps := 3000000) (maxDischargeDepth := 6) +contextual -implicitDefEqProofs only [amC M, ↓amD, Nat.reduceBEq, Nat.reduceAdd, env, fargs, q_truchmanref01_alone, amG, AV.cell, Nat.reduceMul, Nat.reduceLeDiff, hi, hx, ias_row hi, qPiece, hp_get0, hT, hN, hw1, hia, hx1, cut_app, hp_take, aloneE, argE, carE, frmE, namE, prevT]

/-! Where carried tags stand -/
def cw (x y : Piece) : Bool := opensP x && !opensP y || closesP y && !closesP x
theorem rdcl {l : List Piece} {tg : Tag} (hl : l.length ≤ 1000000) {i : Nat} {x : Piece} (hx : l[i]? = some x) {H H0 : List AObj} (hc : CutOk H0 H) (k : List Fra) : ∀ (n j : Nat) (He : List AObj), j + n = i →
    M.go a_truchmanref01_carried H0 (.c l_truchmanref01_carried_0 :: .lp ⟨(some [0, 1, 5]), [], false⟩ l_truchmanref01_carried_0 He :: .blk 0 :: .c (.lv []) :: k) (kv [(0, .slice tg 3 (l.map Piece.row)), (1, .int .i64 i), (5, .int .i64 j)]) H =
      sel (((l.take i).drop j).any (cw x)) (some (.ret (.int .u8 8), H.take H0.length)) (M.go a_truchmanref01_carried H0 k .leaf H)
  | 0, j, He, h => by
    obtain rfl : j = i := by omega
    have e : (l.take j).drop j = [] := List.drop_of_length_le (by simp; omega)
    rw [go_head M l_truchmanref01_carried_0.eq_1]
    simp (maxSteps := 3000000) (maxDischargeDepth := 6) +contextual -implicitDefEqProofs only [amC M, ↓amD, Nat.reduceBEq, Nat.reduceAdd, env, fargs, q_truchmanref01_carried, Nat.lt_irrefl, e, List.any_nil]
  | n + 1, j, He, h => by
    have hi : i < l.length := (List.getElem?_eq_some_iff.1 hx).1
    have hki : j < i := by omega
    have hkl : j < l.length := by omega
    have hy : l[j]? = some l[j] := List.getElem?_eq_getElem hkl
    have hd : (l.take i).drop j = l[j] :: (l.take i).drop (j + 1) := by
      rw [List.drop_eq_getElem_cons (by simp; omega), List.getElem_take]
    have ih := fun He => rdcl (tg := tg) hl hx hc k n (j + 1) He (by omega)
    have hws : IntKind.i64.wrap ((j : Int) + 1) = ((j + 1 : Nat) : Int) := wrap_s hkl (show l.length ≤ maxL by simp only [maxL]; omega)
    rw [hd, List.any_cons]
    generalize l[j] = y at hy
    have e1 : (y.car && (y.kind == 2)) = opensP y := Bool.and_comm _ _
    have e2 : (y.car && (y.kind == 3)) = closesP y := Bool.and_comm _ _
    have e3 : (x.car && (x.kind == 2)) = opensP x := Bool.and_comm _ _
    have e4 : (x.car && (x.kind == 3)) = closesP x := Bool.and_comm _ _
    simp only [kv_cons, kv_nil] at ih
    rw [go_head M l_truchmanref01_carried_0.eq_1]
    simp (maxSteps := 3000000) (maxDischargeDepth := 6) +contextual -implicitDefEqProofs only [amC M, ↓amD, Nat.reduceBEq, Nat.reduceAdd, env, fargs, q_truchmanref01_carried, hki, hx, hy, hi, hkl, ias_row hi, ias_row hkl, qPiece, hws, e1, e2, e3, e4, ih, hc, cw, slc_or, Bool.or_assoc]
def begF (l : List Piece) (i : Nat) : Bool := (l.take i).any fun y => !opensP y
def endF (l : List Piece) (i : Nat) : Bool := (l.take i).any closesP
theorem any_cw (x : Piece) : ∀ l : List Piece, l.any (cw x) = (opensP x && (l.any fun y => !opensP y) || l.any closesP && !closesP x)
  | [] => by simp
  | y :: l => by
    simp only [List.any_cons, any_cw x l, cw]
    cases opensP x <;> cases opensP y <;> cases closesP y <;> cases closesP x <;> simp
theorem run_carried (hB : BasE E) {l : List Piece} {tg : Tag} (hl : l.length ≤ 1000000) {i : Nat} {x : Piece} (hx : l[i]? = some x) (H : List AObj) :
    M.run f_truchmanref01_carried [.slice tg 3 (l.map Piece.row), .int .i64 i] H = some (.ret (.int .u8 (sel (takesB (begF l i) (endF l i) x) 0 8)), H) := by
  rw [run_c M hB.truchmanref01_carried rfl (c := c_truchmanref01_carried) rfl, c_truchmanref01_carried]
  have hlp := fun k He => rdcl M (tg := tg) hl hx (cut_refl H) k i 0 He (by omega)
  simp only [kv_cons, kv_nil, Int.ofNat_zero, List.drop_zero, any_cw] at hlp
  have e : takesB (begF l i) (endF l i) x = !(opensP x && ((l.take i).any fun y => !opensP y) || (l.take i).any closesP && !closesP x) := rfl
  rw [e]
  simp (maxSteps := 3000000) (maxDischargeDepth := 6) +contextual -implicitDefEqProofs only [amC M, ↓amD, Nat.reduceBEq, Nat.reduceAdd, env, fargs, q_truchmanref01_carried, hlp]
theorem begF_succ {l : List Piece} {i : Nat} {x : Piece} (h : l[i]? = some x) : begF l (i + 1) = (begF l i || !opensP x) := by
  unfold begF; rw [List.take_add_one, h, List.any_append]; simp
theorem endF_succ {l : List Piece} {i : Nat} {x : Piece} (h : l[i]? = some x) : endF l (i + 1) = (endF l i || closesP x) := by
  unfold endF; rw [List.take_add_one, h, List.any_append]; simp

theorem rckl (hB : BasE E) {l : List Piece} {tg : Tag} (hl : l.length ≤ 1000000) (ht : TxtOk l) {H0 : List AObj} {k : List Fra}
    (hk : ∀ (G : List AObj) (v : AV) (st : List Str), StkV H0.length G v st → Pre H0 G → M.go a_truchmanref01_CheckPieces H0 k (kv [(3, v)]) G = some (.ret (.int .u8 (sel (decide ((0 : Int) < (st.length : Int))) 9 0)), H0)) :
    ∀ (n i : Nat) (G He : List AObj) (v : AV) (st : List Str), i + n = l.length → Pre H0 G → StkV H0.length G v st → st.length ≤ 16 →
    M.go a_truchmanref01_CheckPieces H0 (.c l_truchmanref01_CheckPieces_0 :: .lp ⟨(some [0, 3, 4]), [], false⟩ l_truchmanref01_CheckPieces_0 He :: .blk 0 :: .c (.lv [3]) :: k) (kv [(0, .slice tg 3 (l.map Piece.row)), (3, v), (4, .int .i64 i)]) G =
      some (.ret (.int .u8 (chkL (l.drop i) (prevT l i) (begF l i) (endF l i) st)), H0) := by
  intro n
  induction n with
  | zero =>
    intro i G He v st h hP hst h16
    obtain rfl : i = l.length := by omega
    rw [List.drop_length, chkL]
    have hk1 := hk G v st hst hP
    simp only [kv_cons, kv_nil] at hk1
    rw [go_head M l_truchmanref01_CheckPieces_0.eq_1]
    simp (maxSteps := 3000000) (maxDischargeDepth := 6) +contextual -implicitDefEqProofs only [amC M, ↓amD, Nat.reduceBEq, Nat.reduceAdd, env, fargs, q_truchmanref01_CheckPieces, Nat.lt_irrefl, hk1]
  | succ n IH =>
    intro i G He v st h hP hst h16
    have hi : i < l.length := by omega
    have hx : l[i]? = some l[i] := List.getElem?_eq_getElem hi
    have hd : l.drop i = l[i] :: l.drop (i + 1) := List.drop_eq_getElem_cons hi
    have hsu := prevT_succ hx
    have hbs := begF_succ hx
    have hes := endF_succ hx
    rw [hd]
    generalize l[i] = x at *
    have hws := wrap_s hi (show l.length ≤ maxL by simp only [maxL]; omega)
    have hA := fun H => run_alone M hB (tg := tg) hl ht hx H
    have hC := fun H => run_carried M hB (tg := tg) hl hx H
    have hct := hP.cut
    have htk := hP.take
    have hlen := len_stk hst
    rw [chkL]
    cases ha : argE x with
    | true =>
      have e : aloneE (prevT l i) x = 1 := by rw [aloneE, ha]; rfl
      rw [go_head M l_truchmanref01_CheckPieces_0.eq_1]
      simp (maxSteps := 3000000) (maxDischargeDepth := 6) +contextual -implicitDefEqProofs only [amC M, ↓amD, Nat.reduceBEq, Nat.reduceAdd, env, fargs, q_truchmanref01_CheckPieces, hi, hx, hA, e, hct, htk, (show ((1 : Int) == 0) = false from rfl)]
    | false =>
    simp only [sel_false]
    cases hca : carE x with
    | true =>
      have e : aloneE (prevT l i) x = 1 := by rw [aloneE, ha, hca]; rfl
      rw [go_head M l_truchmanref01_CheckPieces_0.eq_1]
      simp (maxSteps := 3000000) (maxDischargeDepth := 6) +contextual -implicitDefEqProofs only [amC M, ↓amD, Nat.reduceBEq, Nat.reduceAdd, env, fargs, q_truchmanref01_CheckPieces, hi, hx, hA, e, hct, htk, (show ((1 : Int) == 0) = false from rfl)]
    | false =>
    simp only [sel_false]
    cases hf : frmE (prevT l i) x with
    | true =>
      have e : aloneE (prevT l i) x = 4 := by rw [aloneE, ha, hca, hf]; rfl
      rw [go_head M l_truchmanref01_CheckPieces_0.eq_1]
      simp (maxSteps := 3000000) (maxDischargeDepth := 6) +contextual -implicitDefEqProofs only [amC M, ↓amD, Nat.reduceBEq, Nat.reduceAdd, env, fargs, q_truchmanref01_CheckPieces, hi, hx, hA, e, hct, htk, (show ((4 : Int) == 0) = false from rfl)]
    | false =>
    simp only [sel_false]
    cases hn : namE x with
    | true =>
      have e : aloneE (prevT l i) x = 5 := by rw [aloneE, ha, hca, hf, hn]; rfl
      rw [go_head M l_truchmanref01_CheckPieces_0.eq_1]
      simp (maxSteps := 3000000) (maxDischargeDepth := 6) +contextual -implicitDefEqProofs only [amC M, ↓amD, Nat.reduceBEq, Nat.reduceAdd, env, fargs, q_truchmanref01_CheckPieces, hi, hx, hA, e, hct, htk, (show ((5 : Int) == 0) = false from rfl)]
    | false =>
    simp only [sel_false]
    have e : aloneE (prevT l i) x = 0 := by rw [aloneE, ha, hca, hf, hn]; rfl
    cases htb : takesB (begF l i) (endF l i) x with
    | false =>
      rw [htb] at hC
      rw [go_head M l_truchmanref01_CheckPieces_0.eq_1]
      simp (maxSteps := 3000000) (maxDischargeDepth := 6) +contextual -implicitDefEqProofs only [amC M, ↓amD, Nat.reduceBEq, Nat.reduceAdd, env, fargs, q_truchmanref01_CheckPieces, hi, hx, hA, hC, e, hct, htk, beq_self_eq_true, (show ((8 : Int) == 0) = false from rfl)]
    | true =>
    rw [htb] at hC
    simp only [sel_true, sel_false] at hC ⊢
    cases h3 : x.kind == 3 with
    | true =>
      have h2 : (x.kind == 2) = false := by
        have : x.kind = 3 := by simpa using h3
        rw [this]; rfl
      cases st with
      | nil =>
        have hlen0 : ∀ H, rlen H .sl v = some (.int .i64 0) := hlen
        rw [go_head M l_truchmanref01_CheckPieces_0.eq_1]
        simp (maxSteps := 3000000) (maxDischargeDepth := 6) +contextual -implicitDefEqProofs only [amC M, ↓amD, Nat.reduceBEq, Nat.reduceAdd, env, fargs, q_truchmanref01_CheckPieces, hi, hx, ias_row hi, qPiece, hA, hC, e, h3, hlen0, popB, hct, htk, beq_self_eq_true]
      | cons y st =>
        obtain ⟨⟨q, o, cs, t1, t2, t3, t3'⟩, v', t4, t5⟩ := top_stk hst
        have hw : IntKind.i64.wrap ((((y :: st).length : Nat) : Int) - 1) = (st.length : Int) := by
          simp only [List.length_cons] at h16 ⊢
          rw [wrap_i64 (by omega) (by omega)]; omega
        have h0 : ((((y :: st).length : Nat) : Int) == 0) = false := by simp; omega
        cases hy : y == x.text with
        | false =>
          rw [go_head M l_truchmanref01_CheckPieces_0.eq_1]
          simp (maxSteps := 3000000) (maxDischargeDepth := 6) +contextual -implicitDefEqProofs only [amC M, ↓amD, Nat.reduceBEq, Nat.reduceAdd, env, fargs, q_truchmanref01_CheckPieces, hi, hx, ias_row hi, qPiece, hA, hC, e, h3, hlen, h0, hw, t1, t3, t3', hy, popB, hct, htk, beq_self_eq_true]
        | true =>
          have hstp : stP x (y :: st) = st := if_pos h3
          have ih := fun He => IH (i + 1) G He v' st (by omega) hP t5 (by simp at h16; omega)
          rw [hsu, hbs, hes] at ih
          simp only [kv_cons, kv_nil] at ih
          rw [go_head M l_truchmanref01_CheckPieces_0.eq_1]
          simp (maxSteps := 3000000) (maxDischargeDepth := 6) +contextual -implicitDefEqProofs only [amC M, ↓amD, Nat.reduceBEq, Nat.reduceAdd, env, fargs, q_truchmanref01_CheckPieces, hi, hx, ias_row hi, qPiece, hA, hC, e, h3, h2, hlen, h0, hw, t1, t3, t3', t4, hy, popB, hstp, hws, ih, beq_self_eq_true]
    | false =>
      have hstp : stP x st = st := if_neg (by rw [h3]; simp)
      cases h2 : x.kind == 2 with
      | false =>
        have ih := fun He => IH (i + 1) G He v st (by omega) hP hst h16
        rw [hsu, hbs, hes] at ih
        simp only [kv_cons, kv_nil] at ih
        rw [go_head M l_truchmanref01_CheckPieces_0.eq_1]
        simp (maxSteps := 3000000) (maxDischargeDepth := 6) +contextual -implicitDefEqProofs only [amC M, ↓amD, Nat.reduceBEq, Nat.reduceAdd, env, fargs, q_truchmanref01_CheckPieces, hi, hx, ias_row hi, qPiece, hA, hC, e, h3, h2, hstp, hws, ih, beq_self_eq_true]
      | true =>
        obtain ⟨v3, G3, p1, p2, p3, p4⟩ := ap_stk hst hP.1 (by omega) x.text
        have hP3 : Pre H0 G3 := ⟨Nat.le_trans hP.1 p3, fun j hj => by rw [p4 j hj]; exact hP.2 j hj⟩
        have c3 := hP3.cut
        have tk3 := hP3.take
        have hlen3 : ∀ H, rlen H .sl v3 = some (.int .i64 ((st.length + 1 : Nat) : Int)) := len_stk p2
        cases hgt : decide ((16 : Int) < ((x.text :: stP x st).length : Int)) with
        | true =>
          have hgt2 : decide ((16 : Int) < ((st.length + 1 : Nat) : Int)) = true := by rw [← hgt, hstp]; rfl
          rw [go_head M l_truchmanref01_CheckPieces_0.eq_1]
          simp (maxSteps := 3000000) (maxDischargeDepth := 6) +contextual -implicitDefEqProofs only [amC M, ↓amD, Nat.reduceBEq, Nat.reduceAdd, env, fargs, q_truchmanref01_CheckPieces, amG, AV.cell, Nat.reduceMul, Nat.reduceLeDiff, hi, hx, ias_row hi, qPiece, hA, hC, e, h3, h2, p1, hlen3, hgt2, c3, tk3, beq_self_eq_true]
        | false =>
          have hgt2 : decide ((16 : Int) < ((st.length + 1 : Nat) : Int)) = false := by rw [← hgt, hstp]; rfl
          have hle : (x.text :: st).length ≤ 16 := by have := of_decide_eq_false hgt2; simp only [List.length_cons]; omega
          have ih := fun He => IH (i + 1) G3 He v3 (x.text :: st) (by omega) hP3 p2 hle
          rw [hsu, hbs, hes] at ih
          simp only [kv_cons, kv_nil] at ih
          rw [go_head M l_truchmanref01_CheckPieces_0.eq_1]
          simp (maxSteps := 3000000) (maxDischargeDepth := 6) +contextual -implicitDefEqProofs only [amC M, ↓amD, Nat.reduceBEq, Nat.reduceAdd, env, fargs, q_truchmanref01_CheckPieces, amG, AV.cell, Nat.reduceMul, Nat.reduceLeDiff, hi, hx, ias_row hi, qPiece, hA, hC, e, h3, h2, p1, hlen3, hgt2, hstp, hws, ih, beq_self_eq_true]
theorem run_rCheckPieces (hB : BasE E) {l : Sl Piece} (hl : l.l.length ≤ 1000000) (ht : TxtOk l.l) (H : List AObj) :
    M.run f_truchmanref01_CheckPieces [.slice l.tag 3 (l.l.map Piece.row)] H = some (.ret (.int .u8 (checkP l.l)), H) := by
  rw [run_c M hB.truchmanref01_CheckPieces rfl (c := c_truchmanref01_CheckPieces) rfl, c_truchmanref01_CheckPieces]
  cases h5 : decide ((512 : Int) < (l.l.length : Int)) with
  | true => simp (maxSteps := 3000000) (maxDischargeDepth := 6) +contextual -implicitDefEqProofs only [amC M, ↓amD, Nat.reduceBEq, Nat.reduceAdd, env, fargs, q_truchmanref01_CheckPieces, h5, checkP]
  | false =>
    have hlp := fun k hk He => rckl M hB (tg := l.tag) hl ht (H0 := H) (k := k) hk l.l.length 0 H He (.slice .nil 1 []) [] (by omega) (Pre.refl H) (.inl ⟨rfl, rfl⟩) (by simp)
    simp only [kv_cons, kv_nil, Int.ofNat_zero, List.drop_zero, prevT_zero, (show begF l.l 0 = false from rfl), (show endF l.l 0 = false from rfl)] at hlp
    simp (maxSteps := 3000000) (maxDischargeDepth := 6) +contextual -implicitDefEqProofs only [amC M, ↓amD, Nat.reduceBEq, Nat.reduceAdd, env, fargs, q_truchmanref01_CheckPieces, h5, checkP]
    refine hlp _ (fun G v st hs hP => ?_) _
    have hlen := len_stk hs
    have hct := hP.cut
    have htk := hP.take
    simp (maxSteps := 3000000) (maxDischargeDepth := 6) +contextual -implicitDefEqProofs only [amC M, ↓amD, Nat.reduceBEq, Nat.reduceAdd, env, fargs, q_truchmanref01_CheckPieces, hlen, hct, htk]
end Go.Am
end

section
set_option linter.unusedSimpArgs false
set_option linter.unusedVariables false
set_option maxRecDepth 100000
set_option maxHeartbeats 4000000
namespace Go.Am
open Go.RowKit
attribute [local congr] dsel_congr sel_c1 slc_cong gsel_congr go_congr aft_congr aftD_congr condR_congr backR_congr inR_congr at2_congr
variable {E : REnv} (M : Mach cdec E)

/-! Of general use: tokens, equal lists of pieces -/
theorem st_addO {s t : Str} (h : s.length + t.length < 9223372036854775808) : astrOp .add s t = some (.str (s ++ t)) := if_pos h
theorem ap_ownL {α : Type} {row : α → List AV} {l : List α} {x : α} {r : List AV} {sz bytes : Nat} {e : TypeId} (H L : List AObj) (h1 : r.length = sz) (h2 : r.all AV.cell = true) (h3 : r.map AV.strip = row x)
    (hl : (l.length + 1) * bytes ≤ 140737488355328) (hl2 : l.length + 1 ≤ 4611686018427387904) :
    rap false (H ++ (.tok (l.length * sz) e :: L)) e sz bytes false (.slice (.own H.length) sz (l.map row)) (.slice .full sz [r]) = some (.slice (.own H.length) sz ((l ++ [x]).map row), H ++ (.tok ((l ++ [x]).length * sz) e :: L)) := by
  simp only [rap, rapp, rsrc, List.length_map, List.length_cons, List.length_nil, Nat.zero_add, or_true, if_true, hl, hl2, rowsOk_one h1 h2, and_true, true_and, hp_get0, List.getElem?_cons_zero, hp_set0, List.set_cons_zero, List.map_cons, List.map_nil, h3, List.map_append, List.length_append, Nat.add_mul, Nat.one_mul]
  rw [Nat.add_mul, Nat.one_mul] at hl
  rw [if_pos hl]
theorem pcs_wk (n : Nat) (l : List Piece) : RowsWk n (l.map Piece.row) := by
  rw [rowsWk_map]; exact fun _ _ => ⟨wk_int _ _ _, wk_str _ _, wk_bool _ _, trivial⟩
theorem req_piece (x y : Piece) : req (.st [(0, .int .u8), (1, .str), (2, .bool)]) (.agg x.row) (.agg y.row) = some ((x.kind == y.kind) && (x.text == y.text) && (x.car == y.car)) := by
  simp only [req, reqFields, Piece.row, List.getElem?_cons_zero, List.getElem?_cons_succ, reqCell]
  cases x.kind == y.kind <;> simp
  cases x.text == y.text <;> simp
  cases x.car == y.car <;> rfl
theorem spl {H H0 : List AObj} {l : List Piece} {ta tb : Tag} (hl : l.length ≤ maxL) (hc : CutOk H0 H) (k : List Fra) : ∀ (n i : Nat) (He : List AObj), i + n = l.length →
    M.go a_truchmanref01_SamePieces H0 (.c l_truchmanref01_SamePieces_0 :: .lp ⟨(some [0, 1, 5]), [], false⟩ l_truchmanref01_SamePieces_0 He :: .blk 0 :: .c (.lv []) :: k) (kv [(0, .slice ta 3 (l.map Piece.row)), (1, .slice tb 3 (l.map Piece.row)), (5, .int .i64 i)]) H =
      (M.go a_truchmanref01_SamePieces H0 k .leaf H)
  | 0, i, He, h => by
    have e : i = l.length := by omega
    subst e
    rw [go_head M l_truchmanref01_SamePieces_0.eq_1]
    simp (maxSteps := 3000000) (maxDischargeDepth := 6) +contextual -implicitDefEqProofs only [amC M, ↓amD, Nat.reduceBEq, Nat.reduceAdd, env, fargs, q_truchmanref01_SamePieces, Nat.lt_irrefl, List.drop_length]
  | n + 1, i, He, h => by
    have hi : i < l.length := by omega
    have hx : l[i]? = some l[i] := List.getElem?_eq_getElem hi
    have hd : (l.drop i) = l[i] :: l.drop (i + 1) := List.drop_eq_getElem_cons hi
    have hm : l[i] ∈ l := List.getElem_mem hi
    have ih := fun He => spl (H := H) (H0 := H0) (l := l) (ta := ta) (tb := tb) (hl := hl) hc k n (i + 1)  He (by omega)
    simp only [kv_cons, kv_nil] at ih
    rw [go_head M l_truchmanref01_SamePieces_0.eq_1]
    simp (maxSteps := 3000000) (maxDischargeDepth := 6) +contextual -implicitDefEqProofs only [amC M, ↓amD, Nat.reduceBEq, Nat.reduceAdd, env, fargs, q_truchmanref01_SamePieces, hx, hd, hi, ih, wrap_s hi hl, ias_row hi, qPiece, req_piece, beq_self_eq_true]
theorem run_SamePieces (hB : BasE E) {l : List Piece} {ta tb : Tag} (hl : l.length ≤ maxL) (H : List AObj) : M.run f_truchmanref01_SamePieces [.slice ta 3 (l.map Piece.row), .slice tb 3 (l.map Piece.row)] H = some (.ret (.bool true), H) := by
  rw [run_c M hB.truchmanref01_SamePieces rfl (c := c_truchmanref01_SamePieces) rfl, c_truchmanref01_SamePieces]
  have h1 := fun k He => spl M (ta := ta) (tb := tb) hl (cut_refl H) k l.length 0 He (by omega)
  simp only [kv_cons, kv_nil, Int.ofNat_zero] at h1
  simp (maxSteps := 3000000) (maxDischargeDepth := 6) +contextual -implicitDefEqProofs only [amC M, ↓amD, Nat.reduceBEq, Nat.reduceAdd, env, fargs, q_truchmanref01_SamePieces, beq_self_eq_true, h1]
end Go.Am
end

section
set_option linter.unusedSimpArgs false
set_option linter.unusedVariables false
namespace Go.Am
open Go.RowKit

/-! Units and items of patterns (printed by structs.py of Doc2.spec) -/
structure Un where
  r : Int
  hole : Bool

def Un.row (x : Un) : List AV := [.int .i32 x.r, .bool x.hole]
theorem qUn : (∀ x : Un, takeO 2 (Un.row x) = some (Un.row x)) ∧ (∀ x : Un, rload none (Un.row x) 0 = some (.int .i32 x.r)) ∧ (∀ x : Un, rload none (Un.row x) 1 = some (.bool x.hole)) ∧ (∀ x : Un, (Un.row x).length = 2) ∧ (∀ x : Un, (Un.row x).all AV.cell = true) ∧ (∀ x : Un, ∀ c0 c1 : AV, setRow [c0, c1] 0 (Un.row x) = Un.row x) ∧ (∀ x : Un, ∀ y : Un, setRow (Un.row y) 0 (Un.row x) = Un.row x) ∧ (∀ x : Un, ∀ (y : Int), setRow (Un.row x) 0 [.int .i32 y] = Un.row { x with r := y }) ∧ (∀ x : Un, ∀ (y : Bool), setRow (Un.row x) 1 [.bool y] = Un.row { x with hole := y }) ∧ (∀ x : Un, (Un.row x).map AV.strip = Un.row x) ∧ (∀ x : Un, (Un.row x).take 2 = Un.row x) ∧ (∀ x : Un, (Un.row x).drop 2 = []) :=
  by refine ⟨?_, ?_, ?_, ?_, ?_, ?_, ?_, ?_, ?_, ?_, ?_, ?_⟩ <;> (intros; first | rfl | (simp only [Un.row]; rfl) | (simp only [Un.row, strip_map]; rfl))
structure Un.ok (n : Nat) (x : Un) : Prop where
  triv : True

theorem Un.ok.mono {n m : Nat} {x : Un} (h : x.ok n) (hn : n ≤ m) : x.ok m := ⟨trivial⟩
structure Fit where
  cls : Bool
  r : Int

def Fit.row (x : Fit) : List AV := [.bool x.cls, .int .i32 x.r]
structure Fit.ok (n : Nat) (x : Fit) : Prop where
  triv : True

theorem Fit.ok.mono {n m : Nat} {x : Fit} (h : x.ok n) (hn : n ≤ m) : x.ok m := ⟨trivial⟩
end Go.Am
end

section
set_option linter.unusedSimpArgs false
set_option linter.unusedVariables false
set_option maxRecDepth 100000
set_option maxHeartbeats 4000000
namespace Go.Am
open Go.RowKit
attribute [local congr] dsel_congr sel_c1 slc_cong gsel_congr go_congr aft_congr aftD_congr condR_congr backR_congr inR_congr at2_congr
variable {E : REnv} (M : Mach cdec E)

/-! Classes of units -/
structure BrkE (E : REnv) : Prop where
  docs_Units : E.fn f_docs_Units = some a_docs_Units
  docs_units : E.fn f_docs_units = some a_docs_units
  slices_AppendSeq_docs_unit_docs_unit : E.fn f_slices_AppendSeq_docs_unit_docs_unit = some a_slices_AppendSeq_docs_unit_docs_unit
  slices_Collect_docs_unit : E.fn f_slices_Collect_docs_unit = some a_slices_Collect_docs_unit
  truchmanref01_units : E.fn f_truchmanref01_units = some a_truchmanref01_units
  truchmanref01_Units : E.fn f_truchmanref01_Units = some a_truchmanref01_Units

/-! Edges of words -/
end Go.Am
end

section
set_option linter.unusedSimpArgs false
set_option linter.unusedVariables false
set_option maxRecDepth 100000
set_option maxHeartbeats 4000000
namespace Go.Am
open Go.RowKit
attribute [local congr] dsel_congr sel_c1 slc_cong gsel_congr go_congr aft_congr aftD_congr condR_congr backR_congr inR_congr at2_congr
variable {E : REnv} (M : Mach cdec E)

/-! Items of patterns: the specification's -/
end Go.Am
end

section
set_option linter.unusedSimpArgs false
set_option linter.unusedVariables false
set_option maxRecDepth 100000
set_option maxHeartbeats 4000000
namespace Go.Am
open Go.RowKit
attribute [local congr] dsel_congr sel_c1 slc_cong gsel_congr go_congr aft_congr aftD_congr condR_congr backR_congr inR_congr at2_congr
variable {E : REnv} (M : Mach cdec E)

/-! The units of a list: the specification's -/
def unR (r : Nat) : Un := ⟨(r : Int), false⟩
def unH : Un := ⟨0, true⟩
def unP (x : Piece) : List Un := sel (x.kind == 5) [unH] (sel (x.kind == 1) ((runesL x.text).map unR) [])
def unL (l : List Piece) : List Un := (l.map unP).flatten
theorem unP_len (x : Piece) : (unP x).length ≤ x.text.length + 1 := by
  have := runesL_len x.text
  unfold unP
  cases x.kind == 5 with
  | true => rw [sel_true]; simp
  | false =>
    rw [sel_false]
    cases x.kind == 1 with
    | true => rw [sel_true]; simp; omega
    | false => rw [sel_false]; simp
theorem rul0 {H H0 : List AObj} {l : List Piece} {tg : Tag} {rs : List Nat} (hrs : rs.length ≤ maxL) {j : Int} (k : List Fra) : ∀ (n i : Nat) (o : List Un) (He : List AObj), i + n = rs.length → o.length + n ≤ 1000000 →
    M.go a_truchmanref01_units H0 (.c l_truchmanref01_units_0 :: .lp ⟨(some [0, 3, 4, 5, 6]), [(3, 2, t_truchmanref01_Unit)], false⟩ l_truchmanref01_units_0 He :: .blk 2 :: .c (.lv [0, 3, 4]) :: k) (kv [(0, .slice tg 3 (l.map Piece.row)), (3, .slice (.own H.length) 2 (o.map Un.row)), (4, .int .i64 j), (5, .slice .any 1 (rs.map runeRow)), (6, .int .i64 i)]) (H ++ [.tok (o.length * 2) t_truchmanref01_Unit]) =
      M.go a_truchmanref01_units H0 k (kv [(0, .slice tg 3 (l.map Piece.row)), (3, .slice (.own H.length) 2 ((o ++ (rs.drop i).map unR).map Un.row)), (4, .int .i64 j)]) (H ++ [.tok ((o ++ (rs.drop i).map unR).length * 2) t_truchmanref01_Unit])
  | 0, i, o, He, h, ho => by
    have e : i = rs.length := by omega
    subst e
    rw [go_head M l_truchmanref01_units_0.eq_1]
    simp (maxSteps := 3000000) (maxDischargeDepth := 6) +contextual -implicitDefEqProofs only [amC M, ↓amD, Nat.reduceBEq, Nat.reduceAdd, env, fargs, q_truchmanref01_units, Nat.lt_irrefl, List.drop_length, List.map_nil, List.append_nil]
  | n + 1, i, o, He, h, ho => by
    have hi : i < rs.length := by omega
    have hx : rs[i]? = some rs[i] := List.getElem?_eq_getElem hi
    have hd : (rs.drop i) = rs[i] :: rs.drop (i + 1) := List.drop_eq_getElem_cons hi
    have ap := fun L => ap_ownL (row := Un.row) (l := o) (x := unR rs[i]) (r := [.int .i32 (rs[i] : Int), .bool false]) (sz := 2) (bytes := 8) (e := t_truchmanref01_Unit) H L rfl rfl rfl (by omega) (by omega)
    have ih := fun He => rul0 (H := H) (H0 := H0) (l := l) (tg := tg) hrs (j := j) k n (i + 1) (o ++ [unR rs[i]]) He (by omega) (by simp; omega)
    simp only [kv_cons, kv_nil] at ih
    rw [hd, List.map_cons, show o ++ unR rs[i] :: (rs.drop (i + 1)).map unR = o ++ [unR rs[i]] ++ (rs.drop (i + 1)).map unR by simp]
    rw [go_head M l_truchmanref01_units_0.eq_1]
    simp (maxSteps := 3000000) (maxDischargeDepth := 6) +contextual -implicitDefEqProofs only [amC M, ↓amD, Nat.reduceBEq, Nat.reduceAdd, env, fargs, q_truchmanref01_units, amG, AV.cell, Nat.reduceMul, Nat.reduceLeDiff, hi, hx, ap, ih, ias_row hi, qRune, wrap_s hi hrs]
theorem rul1 {H H0 : List AObj} {l : List Piece} {tg : Tag} (hl : l.length ≤ 100000) (ht : TxtOk l) (k : List Fra) : ∀ (n i : Nat) (o : List Un) (He : List AObj), i + n = l.length → o.length + (unL (l.drop i)).length ≤ 1000000 →
    M.go a_truchmanref01_units H0 (.c l_truchmanref01_units_1 :: .lp ⟨(some [0, 3, 4]), [(3, 2, t_truchmanref01_Unit)], false⟩ l_truchmanref01_units_1 He :: .blk 0 :: .c (.lv [3]) :: k) (kv [(0, .slice tg 3 (l.map Piece.row)), (3, .slice (.own H.length) 2 (o.map Un.row)), (4, .int .i64 i)]) (H ++ [.tok (o.length * 2) t_truchmanref01_Unit]) =
      M.go a_truchmanref01_units H0 k (kv [(3, .slice (.own H.length) 2 ((o ++ unL (l.drop i)).map Un.row))]) (H ++ [.tok ((o ++ unL (l.drop i)).length * 2) t_truchmanref01_Unit])
  | 0, i, o, He, h, ho => by
    have e : i = l.length := by omega
    subst e
    rw [go_head M l_truchmanref01_units_1.eq_1]
    simp (maxSteps := 3000000) (maxDischargeDepth := 6) +contextual -implicitDefEqProofs only [amC M, ↓amD, Nat.reduceBEq, Nat.reduceAdd, env, fargs, q_truchmanref01_units, Nat.lt_irrefl, List.drop_length, unL, List.map_nil, List.flatten_nil, List.append_nil]
  | n + 1, i, o, He, h, ho => by
    have hi : i < l.length := by omega
    have hx : l[i]? = some l[i] := List.getElem?_eq_getElem hi
    have hd : (l.drop i) = l[i] :: l.drop (i + 1) := List.drop_eq_getElem_cons hi
    have hm : l[i] ∈ l := List.getElem_mem hi
    have hwi := wrap_s (n := l.length) hi (by simp only [maxL]; omega)
    have hul : unL (l.drop i) = unP l[i] ++ unL (l.drop (i + 1)) := by rw [hd]; rfl
    rw [hul] at ho ⊢
    rw [List.length_append] at ho
    rw [← List.append_assoc]
    have ih := fun He => rul1 (H := H) (H0 := H0) (tg := tg) hl ht k n (i + 1) (o ++ unP l[i]) He (by omega) (by rw [List.length_append]; omega)
    simp only [kv_cons, kv_nil] at ih
    cases h5 : l[i].kind == 5 with
    | true =>
      have h1 : (l[i].kind == 1) = false := by rw [eq_of_beq h5]; rfl
      have hu : unP l[i] = [unH] := by rw [unP, h5, sel_true]
      rw [hu] at ih ho ⊢
      have ap := fun L => ap_ownL (row := Un.row) (l := o) (x := unH) (r := [.int .i32 0, .bool true]) (sz := 2) (bytes := 8) (e := t_truchmanref01_Unit) H L rfl rfl rfl (by simp at ho; omega) (by simp at ho; omega)
      rw [go_head M l_truchmanref01_units_1.eq_1]
      simp (maxSteps := 3000000) (maxDischargeDepth := 6) +contextual -implicitDefEqProofs only [amC M, ↓amD, Nat.reduceBEq, Nat.reduceAdd, env, fargs, q_truchmanref01_units, amG, AV.cell, Nat.reduceMul, Nat.reduceLeDiff, hi, hx, h5, h1, ap, ih, ias_row hi, qPiece, hwi]
    | false =>
      cases h1 : l[i].kind == 1 with
      | false =>
        have hu : unP l[i] = [] := by rw [unP, h5, sel_false, h1, sel_false]
        rw [hu, List.append_nil] at ih ⊢
        rw [go_head M l_truchmanref01_units_1.eq_1]
        simp (maxSteps := 3000000) (maxDischargeDepth := 6) +contextual -implicitDefEqProofs only [amC M, ↓amD, Nat.reduceBEq, Nat.reduceAdd, env, fargs, q_truchmanref01_units, amG, AV.cell, Nat.reduceMul, Nat.reduceLeDiff, hi, hx, h5, h1, ih, ias_row hi, qPiece, hwi]
      | true =>
        have hu : unP l[i] = (runesL l[i].text).map unR := by rw [unP, h5, sel_false, h1, sel_true]
        rw [hu] at ih ho ⊢
        have hrl := runesL_len l[i].text
        have htx := ht _ hm
        have h0 := fun k He => rul0 M (H := H) (H0 := H0) (l := l) (tg := tg) (rs := runesL l[i].text) (by simp only [maxL]; omega) (j := (i : Int)) k (runesL l[i].text).length 0 o He (by omega) (by simp at ho; omega)
        simp only [kv_cons, kv_nil, List.drop_zero, Int.ofNat_zero] at h0
        rw [go_head M l_truchmanref01_units_1.eq_1]
        simp (maxSteps := 3000000) (maxDischargeDepth := 6) +contextual -implicitDefEqProofs only [amC M, ↓amD, Nat.reduceBEq, Nat.reduceAdd, env, fargs, q_truchmanref01_units, amG, AV.cell, Nat.reduceMul, Nat.reduceLeDiff, hi, hx, h5, h1, h0, ih, ias_row hi, qPiece, hwi, rcvsr_R htx]
theorem uns_wk (n : Nat) (l : List Un) : RowsWk n (l.map Un.row) := by
  rw [rowsWk_map]; exact fun _ _ => ⟨wk_int _ _ _, wk_bool _ _, trivial⟩
theorem run_runits (hU : BrkE E) {l : List Piece} {tg : Tag} (hl : l.length ≤ 100000) (ht : TxtOk l) (hu : (unL l).length ≤ 1000000) (H : List AObj) :
    M.run f_truchmanref01_units [.slice tg 3 (l.map Piece.row)] H = some (.ret (.slice .any 2 ((unL l).map Un.row)), H) := by
  rw [run_c M hU.truchmanref01_units rfl (c := c_truchmanref01_units) rfl, c_truchmanref01_units]
  have h1 := fun k => rul1 M (H := H) (H0 := H) (tg := tg) hl ht k l.length 0 [] (H ++ [.tok 0 t_truchmanref01_Unit]) (by omega) (by simpa using hu)
  simp only [kv_cons, kv_nil, Int.ofNat_zero, List.drop_zero, List.nil_append, List.length_nil, Nat.zero_mul, List.map_nil] at h1
  have hh := handV_drop (cut_app H [.tok ((unL l).length * 2) t_truchmanref01_Unit]) (wk_any (esz := 2) (tag := .own H.length) (uns_wk H.length (unL l)))
  rw [anyV_slice, hp_take] at hh
  simp (maxSteps := 3000000) (maxDischargeDepth := 6) +contextual -implicitDefEqProofs only [amC M, ↓amD, Nat.reduceBEq, Nat.reduceAdd, env, fargs, q_truchmanref01_units, h1, hh]

end Go.Am
end

section
set_option linter.unusedSimpArgs false
set_option linter.unusedVariables false
set_option maxRecDepth 100000
set_option maxHeartbeats 4000000
namespace Go.Am
open Go.RowKit
attribute [local congr] dsel_congr sel_c1 slc_cong gsel_congr go_congr aft_congr aftD_congr condR_congr backR_congr inR_congr at2_congr
variable {E : REnv} (M : Mach cdec E)

/-! The items of a pattern: the specification's -/
end Go.Am
end

section
set_option linter.unusedSimpArgs false
set_option linter.unusedVariables false
set_option maxRecDepth 100000
set_option maxHeartbeats 4000000
namespace Go.Am
open Go.RowKit
attribute [local congr] dsel_congr sel_c1 slc_cong gsel_congr go_congr aft_congr aftD_congr condR_congr backR_congr inR_congr at2_congr
variable {E : REnv} (M : Mach cdec E)

/-! The specification's rules at a place -/
def unitsF (l : List Piece) : Int × Int := if checkP l = 0 then ((unL l).length, 0) else (0, checkP l)
theorem run_rUnits (hB : BasE E) (hU : BrkE E) {l : Sl Piece} (hl : l.l.length ≤ 100000) (ht : TxtOk l.l) (hu : (unL l.l).length ≤ 1000000) (H : List AObj) :
    M.run f_truchmanref01_Units [.slice l.tag 3 (l.l.map Piece.row)] H = some (.ret (.tuple [.int .i64 (unitsF l.l).1, .int .u8 (unitsF l.l).2]), H) := by
  rw [run_c M hU.truchmanref01_Units rfl (c := c_truchmanref01_Units) rfl, c_truchmanref01_Units]
  have h1 := fun H => run_rCheckPieces M hB (l := l) (by omega) ht H
  have h2 := fun H => run_runits M hU (l := l.l) (tg := l.tag) hl ht hu H
  by_cases h : checkP l.l = 0
  · rw [unitsF, if_pos h]
    rw [h] at h1
    simp (maxSteps := 3000000) (maxDischargeDepth := 6) +contextual -implicitDefEqProofs only [amC M, ↓amD, Nat.reduceBEq, Nat.reduceAdd, env, fargs, q_truchmanref01_Units, h1, h2, List.length_map, (show ((0 : Int) == 0) = true from rfl), (show ((0 : Int) != 0) = false from rfl)]
  · rw [unitsF, if_neg h]
    have h0 : (checkP l.l == 0) = false := by simpa using h
    simp (maxSteps := 3000000) (maxDischargeDepth := 6) +contextual -implicitDefEqProofs only [amC M, ↓amD, Nat.reduceBEq, Nat.reduceAdd, env, fargs, q_truchmanref01_Units, h1, h0]

end Go.Am
end

section
set_option linter.unusedSimpArgs false
set_option linter.unusedVariables false
set_option maxRecDepth 100000
set_option maxHeartbeats 4000000
namespace Go.Am
open Go.RowKit
attribute [local congr] dsel_congr sel_c1 slc_cong gsel_congr go_congr aft_congr aftD_congr condR_congr backR_congr inR_congr at2_congr
variable {E : REnv} (M : Mach cdec E)

/-! The specification's CheckBreaks -/
end Go.Am
end

section
set_option linter.unusedSimpArgs false
set_option linter.unusedVariables false
set_option maxRecDepth 100000
set_option maxHeartbeats 4000000
namespace Go.Am
open Go.RowKit
attribute [local congr] dsel_congr sel_c1 slc_cong gsel_congr go_congr aft_congr aftD_congr condR_congr backR_congr inR_congr at2_congr
variable {E : REnv} (M : Mach cdec E)

/-! The specification's Breaks -/
end Go.Am
end

section
set_option linter.unusedSimpArgs false
set_option linter.unusedVariables false
set_option maxRecDepth 100000
set_option maxHeartbeats 4000000
namespace Go.Am
open Go.RowKit
attribute [local congr] dsel_congr sel_c1 slc_cong gsel_congr go_congr aft_congr aftD_congr condR_congr backR_congr inR_congr at2_congr
variable {E : REnv} (M : Mach cdec E)

/-! The specification's Fits -/
end Go.Am
end

section
set_option linter.unusedSimpArgs false
set_option linter.unusedVariables false
set_option maxRecDepth 100000
set_option maxHeartbeats 4000000
namespace Go.Am
open Go.RowKit
attribute [local congr] dsel_congr sel_c1 slc_cong gsel_congr go_congr aft_congr aftD_congr condR_congr backR_congr inR_congr at2_congr
variable {E : REnv} (M : Mach cdec E)

/-! Small functions of the laws about breaks -/
theorem qIntR : ∀ n : Int, rload none (intRow n) 0 = some (.int .i64 n) := fun _ => rfl
end Go.Am
end

section
set_option linter.unusedSimpArgs false
set_option linter.unusedVariables false
set_option maxRecDepth 100000
set_option maxHeartbeats 4000000
namespace Go.Am
open Go.RowKit
attribute [local congr] dsel_congr sel_c1 slc_cong gsel_congr go_congr aft_congr aftD_congr condR_congr backR_congr inR_congr at2_congr
variable {E : REnv} (M : Mach cdec E)

/-! The items of a pattern: the program's -/
def fnRow (v : AV) : List AV := [v]
end Go.Am
end

section
set_option linter.unusedSimpArgs false
set_option linter.unusedVariables false
set_option maxRecDepth 100000
set_option maxHeartbeats 4000000
namespace Go.Am
open Go.RowKit
attribute [local congr] dsel_congr sel_c1 slc_cong gsel_congr go_congr aft_congr aftD_congr condR_congr backR_congr inR_congr at2_congr
variable {E : REnv} (M : Mach cdec E)

/-! Which items fit which units: the program's -/
/-! docs.compiled -/
end Go.Am
end

section
set_option linter.unusedSimpArgs false
set_option linter.unusedVariables false
set_option maxRecDepth 100000
set_option maxHeartbeats 4000000
namespace Go.Am
open Go.RowKit
attribute [local congr] dsel_congr sel_c1 slc_cong gsel_congr go_congr aft_congr aftD_congr condR_congr backR_congr inR_congr at2_congr
variable {E : REnv} (M : Mach cdec E)

/-! The units of a list: the program's -/
structure UntE (E : REnv) : Prop where
  seq : E.seq f_docs_units_1 = unitSeq
  sar : E.sar f_docs_units_1 = 1
theorem ap_at {α : Type} {row : α → List AV} {l : List α} {x : α} {r : List AV} {sz bytes t : Nat} {e : TypeId} {H : List AObj} (ht : H[t]? = some (.tok (l.length * sz) e)) (h1 : r.length = sz) (h2 : r.all AV.cell = true) (h3 : r.map AV.strip = row x)
    (hl : (l.length + 1) * bytes ≤ 140737488355328) (hl2 : l.length + 1 ≤ 4611686018427387904) :
    rap false H e sz bytes false (.slice (.own t) sz (l.map row)) (.slice .full sz [r]) = some (.slice (.own t) sz ((l ++ [x]).map row), H.set t (.tok ((l ++ [x]).length * sz) e)) := by
  simp only [rap, rapp, rsrc, List.length_map, List.length_cons, List.length_nil, Nat.zero_add, or_true, if_true, hl, hl2, rowsOk_one h1 h2, and_true, true_and, ht, List.map_cons, List.map_nil, h3, List.map_append, List.length_append, Nat.add_mul, Nat.one_mul]
  rw [Nat.add_mul, Nat.one_mul] at hl
  rw [if_pos hl]
theorem ap_new {sz bytes : Nat} {e : TypeId} {r : List AV} (H : List AObj) (h1 : r.length = sz) (h2 : r.all AV.cell = true) (hb : bytes ≤ 140737488355328) :
    rap false H e sz bytes false (.slice .nil sz []) (.slice .full sz [r]) = some (.slice (.own H.length) sz [r.map AV.strip], H ++ [.tok sz e]) := by
  simp only [rap, rapp, rsrc, List.length_cons, List.length_nil, Nat.zero_add, or_true, if_true, rowsOk_one h1 h2, and_true, true_and, List.map_cons, List.map_nil, Nat.one_mul]
  rw [if_pos ⟨hb, by omega⟩]; rfl
theorem run_dunits (hU : BrkE E) {l : List Piece} {t : Tag} (H : List AObj) : M.run f_docs_units [.slice t 3 (l.map Piece.row)] H = some (.ret (.fn (.func f_docs_units_1) [] [.ptr H.length 0]), H ++ [.cells [.slice t 3 (l.map Piece.row)] t_sl_api_Piece]) := by
  rw [run_c M hU.docs_units rfl (c := c_docs_units) rfl, c_docs_units]
  simp (maxSteps := 3000000) (maxDischargeDepth := 6) +contextual -implicitDefEqProofs only [amC M, ↓amD, Nat.reduceBEq, Nat.reduceAdd, env, fargs, q_docs_units, amG, AV.cell, Nat.reduceMul, Nat.reduceLeDiff]
theorem unitRows_eq : ∀ l : List Piece, unitRows (l.map Piece.row) = some ((unL l).map fun u => [.agg u.row])
  | [] => rfl
  | x :: l => by
    rw [List.map_cons, show Piece.row x = [.int .u8 x.kind, .str x.text, .bool x.car] from rfl, unitRows, unitRows_eq l]
    show _ = some ((unP x ++ unL l).map _)
    rw [List.map_append]
    dsimp only
    by_cases h5 : x.kind = 5
    · rw [if_pos h5, unP, h5]; rfl
    · have e5 : (x.kind == 5) = false := by simpa using h5
      rw [if_neg h5, unP, e5, sel_false]
      by_cases h1 : x.kind = 1
      · rw [if_pos h1, h1]
        show _ = some (((runesL x.text).map unR).map _ ++ _)
        rw [runesOf_L, List.map_map, List.map_map]; rfl
      · have e1 : (x.kind == 1) = false := by simpa using h1
        rw [if_neg h1, e1]; rfl
/-- The heap while units are collected. -/
def uX (b : Nat) : List Un → List AObj
  | [] => [.cells [.slice .nil 2 []] t_sl_docs_unit]
  | x :: l => .cells [.slice (.own (b + 2)) 2 ((x :: l).map Un.row)] t_sl_docs_unit :: .cells x.row t_docs_unit :: .tok ((x :: l).length * 2) t_docs_unit :: l.map fun u => .cells u.row t_docs_unit
theorem noIt_uX (H : List AObj) (b : Nat) (l : List Un) : noIt (H ++ uX b []) (H ++ uX b l) = true := noIt_app H (by
  have h : ∀ l : List Un, noIt [] (l.map fun u => AObj.cells u.row t_docs_unit) = true := fun l => by
    induction l with
    | nil => rfl
    | cons x l ih => simpa [noIt, isIt] using ih
  cases l with
  | nil => rfl
  | cons x l => simpa [uX, noIt, isIt] using h l)
theorem uRounds {H : List AObj} {e : Env} (he2 : fget e 2 = .ptr H.length 0) : ∀ (xs st : List Un), st.length + xs.length ≤ 1000000 →
    rounds cdec M.go (rfnOf a_slices_AppendSeq_docs_unit_docs_unit) [7] [[⟨some 5, none, .op (.nw [.int .i32 0, .bool false] t_docs_unit)⟩, ⟨none, none, .op (.st 2 (.t 5) (.t 7))⟩]] r_slices_AppendSeq_docs_unit_docs_unit_0 e [] (H ++ uX H.length []) (xs.map fun u => [.agg u.row]) (H ++ uX H.length st) = some (none, H ++ uX H.length (st ++ xs))
  | [], st, _ => by rw [List.append_nil]; rfl
  | x :: xs, st, hb => by
    have q1 : (rfnOf a_slices_AppendSeq_docs_unit_docs_unit).dfr = some ([], .c .unk, .bad) := rfl
    have q2 : (rfnOf a_slices_AppendSeq_docs_unit_docs_unit).mode = .keep := rfl
    have q3 : (rfnOf a_slices_AppendSeq_docs_unit_docs_unit).res = [] := rfl
    have ih := uRounds he2 xs (st ++ [x]) (by simp at hb ⊢; omega)
    rw [List.append_assoc] at ih
    rw [List.map_cons]
    refine rnd_cons ?_ (noIt_uX H H.length (st ++ [x])) (fun _ h => by cases h) ih
    generalize rfnOf a_slices_AppendSeq_docs_unit_docs_unit = rf at q1 q2 q3
    cases st with
    | nil =>
      have gk : ∀ L : List AObj, (H ++ L)[H.length + 1]? = L[1]? := fun L => hp_getk H L 1
      have sk : ∀ (L : List AObj) (x : AObj), (H ++ L).set (H.length + 1) x = H ++ L.set 1 x := fun L x => hp_setk H L 1 x
      have ap : rap false (H ++ [.cells [.slice .nil 2 []] t_sl_docs_unit, .cells x.row t_docs_unit]) t_docs_unit 2 8 false (.slice .nil 2 []) (.slice .full 2 [x.row]) = some (.slice (.own (H.length + 2)) 2 [x.row], H ++ [.cells [.slice .nil 2 []] t_sl_docs_unit, .cells x.row t_docs_unit, .tok 2 t_docs_unit]) := by
        rw [ap_new (sz := 2) (bytes := 8) (r := x.row) _ rfl rfl (by omega)]; simp [Un.row, AV.strip]
      simp only [List.nil_append, uX, fsetL, List.map_cons, List.map_nil, List.cons_append, kv_cons, kv_nil, r_slices_AppendSeq_docs_unit_docs_unit_0, List.length_cons, List.length_nil, Nat.zero_add, Nat.one_mul] at ap ⊢
      simp (maxSteps := 3000000) (maxDischargeDepth := 6) +contextual -implicitDefEqProofs only [amC M, ↓amD, Nat.reduceBEq, Nat.reduceAdd, env, fargs, q_slices_AppendSeq_docs_unit_docs_unit, amG, AV.cell, Nat.reduceMul, Nat.reduceLeDiff, q1, q2, q3, he2, ap, qUn, gk, sk, List.getElem?_cons_succ, List.set_cons_succ]
    | cons y st =>
      have hG : H ++ uX H.length (y :: st) = H ++ (.cells [.slice (.own (H.length + 2)) 2 ((y :: st).map Un.row)] t_sl_docs_unit :: .cells y.row t_docs_unit :: .tok ((y :: st).length * 2) t_docs_unit :: st.map fun u => .cells u.row t_docs_unit) := rfl
      obtain ⟨G2, hG2⟩ : ∃ G2, G2 = H ++ (.cells [.slice (.own (H.length + 2)) 2 ((y :: st).map Un.row)] t_sl_docs_unit :: .cells y.row t_docs_unit :: .tok ((y :: st ++ [x]).length * 2) t_docs_unit :: st.map fun u => .cells u.row t_docs_unit) := ⟨_, rfl⟩
      have gg : ∀ X, (H ++ uX H.length (y :: st) ++ X)[H.length]? = some (.cells [.slice (.own (H.length + 2)) 2 ((y :: st).map Un.row)] t_sl_docs_unit) := fun X => by rw [hG, List.append_assoc, hp_get0]; rfl
      have gg2 : ∀ X, (G2 ++ X)[H.length]? = some (.cells [.slice (.own (H.length + 2)) 2 ((y :: st).map Un.row)] t_sl_docs_unit) := fun X => by rw [hG2, List.append_assoc, hp_get0]; rfl
      have ap : ∀ X, rap false (H ++ uX H.length (y :: st) ++ X) t_docs_unit 2 8 false (.slice (.own (H.length + 2)) 2 ((y :: st).map Un.row)) (.slice .full 2 [x.row]) = some (.slice (.own (H.length + 2)) 2 ((y :: st ++ [x]).map Un.row), G2 ++ X) := fun X => by
        rw [hG2, hG, ap_at (row := Un.row) (l := y :: st) (x := x) (r := x.row) (sz := 2) (bytes := 8) (by rw [List.append_assoc, hp_getk]; rfl) rfl rfl rfl (by simp at hb ⊢; omega) (by simp at hb ⊢; omega), List.append_assoc, List.append_assoc, hp_setk]; rfl
      have hs : (G2 ++ [AObj.cells x.row t_docs_unit]).set H.length (AObj.cells [.slice (.own (H.length + 2)) 2 ((y :: st ++ [x]).map Un.row)] t_sl_docs_unit) = H ++ uX H.length (y :: st ++ [x]) := by
        rw [hG2, List.append_assoc, hp_set0, List.cons_append, List.set_cons_zero]
        simp [uX]
      clear hG hG2
      simp only [fsetL, List.map_cons, List.map_nil, List.cons_append, List.nil_append, kv_cons, kv_nil, r_slices_AppendSeq_docs_unit_docs_unit_0] at gg gg2 ap hs ⊢
      generalize H ++ uX H.length (y :: st) = G at *
      generalize H ++ uX H.length (y :: (st ++ [x])) = G3 at *
      simp (maxSteps := 3000000) (maxDischargeDepth := 6) +contextual -implicitDefEqProofs only [amC M, ↓amD, Nat.reduceBEq, Nat.reduceAdd, env, fargs, q_slices_AppendSeq_docs_unit_docs_unit, amG, AV.cell, Nat.reduceMul, Nat.reduceLeDiff, q1, q2, q3, he2, ap, gg, gg2, hs, qUn, hp_get0]
theorem un_wk (n : Nat) (l : List Un) : RowsWk n (l.map Un.row) := by
  rw [rowsWk_map]; exact fun _ _ => ⟨wk_int _ _ _, wk_bool _ _, trivial⟩
theorem run_AppendSeq (hU : BrkE E) (hN : UntE E) {l : List Piece} {t : Tag} {H : List AObj} {id : Nat} {T : TypeId} (hl : l.length ≤ 1000000) (hu : (unL l).length ≤ 1000000) (hid : H[id]? = some (.cells [.slice t 3 (l.map Piece.row)] T)) : M.run f_slices_AppendSeq_docs_unit_docs_unit [.slice .nil 2 [], .fn (.func f_docs_units_1) [] [.ptr id 0]] H = some (.ret (.slice .any 2 ((unL l).map Un.row)), H) := by
  have hs : E.seq f_docs_units_1 [.ptr id 0] (H ++ uX H.length []) = some ((unL l).map fun u => [.agg u.row], []) := by
    rw [hN.seq]
    have h1 : (H ++ uX H.length [])[id]? = some (.cells [.slice t 3 (l.map Piece.row)] T) := hp_getl hid
    have h2 : Nat.ble (l.map Piece.row).length 9223372036854775807 = true := by rw [Nat.ble_eq, List.length_map]; omega
    simp only [unitSeq, h1, unitRows_eq, h2, cond_true]
  rw [run_c M hU.slices_AppendSeq_docs_unit_docs_unit rfl (c := c_slices_AppendSeq_docs_unit_docs_unit) rfl, c_slices_AppendSeq_docs_unit_docs_unit]
  have he := fun (k : List Fra) (e : Env) (H0 : List AObj) (he2 : fget e 2 = .ptr H.length 0) => by
    have hrr := uRounds M (H := H) he2 (unL l) [] (by simpa using hu)
    rw [List.nil_append] at hrr
    exact rfn_eq (M := M) (ps := [7]) (fn := a_slices_AppendSeq_docs_unit_docs_unit) (k := k) (a := e) (H0 := H0) _ hs hN.sar hrr
  cases hq : unL l with
  | nil =>
    rw [hq] at he
    simp only [uX] at he
    simp (maxSteps := 3000000) (maxDischargeDepth := 6) +contextual -implicitDefEqProofs only [amC M, ↓amD, Nat.reduceBEq, Nat.reduceAdd, env, fargs, q_slices_AppendSeq_docs_unit_docs_unit, amG, AV.cell, Nat.reduceMul, Nat.reduceLeDiff, he, rfnC_none, go_rfn, rowsWk_nil, hp_get0, cut_app, hp_take]
  | cons x xs =>
    rw [hq] at he
    have hh := handV_drop (cut_app H (uX H.length (x :: xs))) (wk_any (esz := 2) (tag := .own (H.length + 2)) (un_wk H.length (x :: xs)))
    simp only [uX, List.length_cons, hp_take, anyV_slice] at he hh
    simp (maxSteps := 3000000) (maxDischargeDepth := 6) +contextual -implicitDefEqProofs only [amC M, ↓amD, Nat.reduceBEq, Nat.reduceAdd, env, fargs, q_slices_AppendSeq_docs_unit_docs_unit, amG, AV.cell, Nat.reduceMul, Nat.reduceLeDiff, he, rfnC_none, go_rfn, hp_get0, hh, hp_take]
theorem run_Collect (hU : BrkE E) (hN : UntE E) {l : List Piece} {t : Tag} {H : List AObj} {id : Nat} {T : TypeId} (hl : l.length ≤ 1000000) (hu : (unL l).length ≤ 1000000) (hid : H[id]? = some (.cells [.slice t 3 (l.map Piece.row)] T)) : M.run f_slices_Collect_docs_unit [.fn (.func f_docs_units_1) [] [.ptr id 0]] H = some (.ret (.slice .any 2 ((unL l).map Un.row)), H) := by
  rw [run_c M hU.slices_Collect_docs_unit rfl (c := c_slices_Collect_docs_unit) rfl, c_slices_Collect_docs_unit]
  have h1 := run_AppendSeq M hU hN hl hu hid
  have hh := handV_drop (cut_refl H) (wk_any (esz := 2) (tag := .any) (un_wk H.length (unL l)))
  simp only [anyV_slice, hp_self] at hh
  simp (maxSteps := 3000000) (maxDischargeDepth := 6) +contextual -implicitDefEqProofs only [amC M, ↓amD, Nat.reduceBEq, Nat.reduceAdd, env, fargs, q_slices_Collect_docs_unit, h1, hh]
theorem run_dUnits (hB : BasE E) (hX : ExtD M) (hU : BrkE E) (hN : UntE E) {l : Sl Piece} (hl : l.l.length ≤ 100000) (ht : TxtOk l.l) (hu : (unL l.l).length ≤ 1000000) (H : List AObj) :
    M.run f_docs_Units [.slice l.tag 3 (l.l.map Piece.row)] H = some (.ret (.tuple [.int .i64 (unitsF l.l).1, .int .u8 (unitsF l.l).2]), H) := by
  rw [run_c M hU.docs_Units rfl (c := c_docs_Units) rfl, c_docs_Units]
  have h1 := fun H => run_CheckPieces M hB hX (l := l) (by omega) ht H
  have h2 := fun H => run_dunits M hU (l := l.l) (t := l.tag) H
  have h3 := run_Collect M hU hN (l := l.l) (t := l.tag) (H := H ++ [.cells [.slice l.tag 3 (l.l.map Piece.row)] t_sl_api_Piece]) (id := H.length) (by omega) hu (hp_get0 _ _)
  by_cases h : checkP l.l = 0
  · rw [unitsF, if_pos h]
    rw [h] at h1
    simp (maxSteps := 3000000) (maxDischargeDepth := 6) +contextual -implicitDefEqProofs only [amC M, ↓amD, Nat.reduceBEq, Nat.reduceAdd, env, fargs, q_docs_Units, h1, h2, h3, List.length_map, (show ((0 : Int) == 0) = true from rfl), cut_app, hp_take, wk_tuple]
  · rw [unitsF, if_neg h]
    have h0 : (checkP l.l == 0) = false := by simpa using h
    simp (maxSteps := 3000000) (maxDischargeDepth := 6) +contextual -implicitDefEqProofs only [amC M, ↓amD, Nat.reduceBEq, Nat.reduceAdd, env, fargs, q_docs_Units, h1, h0]
end Go.Am
end

section
set_option linter.unusedSimpArgs false
set_option linter.unusedVariables false
set_option maxRecDepth 100000
set_option maxHeartbeats 4000000
namespace Go.Am
open Go.RowKit
attribute [local congr] dsel_congr sel_c1 slc_cong gsel_congr go_congr aft_congr aftD_congr condR_congr backR_congr inR_congr at2_congr
variable {E : REnv} (M : Mach cdec E)

/-! The places with breaks: the program's -/
end Go.Am
end

section
set_option linter.unusedSimpArgs false
set_option linter.unusedVariables false
set_option maxRecDepth 100000
set_option maxHeartbeats 4000000
namespace Go.Am
open Go.RowKit
attribute [local congr] dsel_congr sel_c1 slc_cong gsel_congr go_congr aft_congr aftD_congr condR_congr backR_congr inR_congr at2_congr
variable {E : REnv} (M : Mach cdec E)

/-! How much is asked: long, strict -/
def plRow (p : Sl Piece) : List AV := [.slice p.tag 3 (p.l.map Piece.row)]
theorem qPl : (∀ p : Sl Piece, rload none (plRow p) 0 = some (.slice p.tag 3 (p.l.map Piece.row))) ∧ (∀ p : Sl Piece, takeO 1 (plRow p) = some (plRow p)) ∧ (∀ p : Sl Piece, (plRow p).length = 1) := ⟨fun _ => rfl, fun _ => rfl, fun _ => rfl⟩
def lngP (n : Nat) : List Piece → Nat
  | [] => n
  | x :: l => if n < 5000 then lngP (n + x.text.length) l else n
def lngL (n : Nat) : List (Sl Piece) → Nat
  | [] => n
  | p :: ps => lngL (lngP (n + p.l.length) p.l) ps
def longF (ps : List (Sl Piece)) : Bool := decide (2500 < lngL 0 ps)
theorem lngP_ge : ∀ (l : List Piece) (n : Nat), 5000 ≤ n → lngP n l = n
  | [], n, _ => rfl
  | x :: l, n, h => by rw [lngP, if_neg (by omega)]
theorem lngP_le : ∀ (l : List Piece) (n : Nat), (∀ x ∈ l, x.text.length ≤ maxL) → n < 5000 → lngP n l ≤ maxL + 5000
  | [], n, _, hn => by rw [lngP]; simp only [maxL]; omega
  | x :: l, n, h, hn => by
    rw [lngP, if_pos hn]
    have h1 := h x List.mem_cons_self
    by_cases h2 : n + x.text.length < 5000
    · exact lngP_le l (n + x.text.length) (fun y hy => h y (List.mem_cons_of_mem _ hy)) h2
    · rw [lngP_ge l _ (by omega)]; omega
theorem lngP_le2 (l : List Piece) (n : Nat) (h : ∀ x ∈ l, x.text.length ≤ maxL) : lngP n l ≤ n + maxL + 5000 := by
  by_cases hn : n < 5000
  · have := lngP_le l n h hn; omega
  · rw [lngP_ge l n (by omega)]; omega
theorem lngP_mono : ∀ (l : List Piece) (n : Nat), n ≤ lngP n l
  | [], n => Nat.le_refl _
  | x :: l, n => by
    rw [lngP]; split
    · have := lngP_mono l (n + x.text.length); omega
    · exact Nat.le_refl _
theorem lngL_mono : ∀ (ps : List (Sl Piece)) (n : Nat), n ≤ lngL n ps
  | [], n => Nat.le_refl _
  | p :: ps, n => by
    rw [lngL]
    have h1 := lngP_mono p.l (n + p.l.length)
    have h2 := lngL_mono ps (lngP (n + p.l.length) p.l)
    omega
def txtN (l : List Piece) : Nat := (l.map fun x => x.text.length).sum
theorem lngP_eq : ∀ (l : List Piece) (n : Nat), lngP n l ≤ 2500 → lngP n l = n + txtN l
  | [], n, _ => by simp [lngP, txtN]
  | x :: l, n, h => by
    have h0 : n < 5000 := by have := lngP_mono (x :: l) n; omega
    rw [lngP, if_pos h0] at h ⊢
    rw [lngP_eq l _ h, txtN, txtN, List.map_cons, List.sum_cons]; omega
def allN (ps : List (Sl Piece)) : Nat := (ps.map fun p => p.l.length + txtN p.l).sum
theorem lngL_eq : ∀ (ps : List (Sl Piece)) (n : Nat), lngL n ps ≤ 2500 → lngL n ps = n + allN ps
  | [], n, _ => by simp [lngL, allN]
  | p :: ps, n, h => by
    rw [lngL] at h ⊢
    have h0 := lngL_mono ps (lngP (n + p.l.length) p.l)
    rw [lngL_eq ps _ h, lngP_eq p.l _ (by omega), allN, allN, List.map_cons, List.sum_cons]; omega
theorem longF_one {p : Sl Piece} (h : longF [p] = false) : p.l.length + txtN p.l ≤ 2500 := by
  have h1 : lngL 0 [p] ≤ 2500 := by have := of_decide_eq_false h; omega
  have h2 := lngL_eq [p] 0 h1
  simp only [allN, List.map_cons, List.map_nil, List.sum_cons, List.sum_nil] at h2
  omega
theorem txtN_mem {l : List Piece} {x : Piece} (h : x ∈ l) : x.text.length ≤ txtN l := by
  induction l with
  | nil => cases h
  | cons y l ih =>
    rw [txtN, List.map_cons, List.sum_cons]
    rcases List.mem_cons.1 h with rfl | h
    · omega
    · have := ih h; unfold txtN at this; omega
theorem unL_len : ∀ l : List Piece, (unL l).length ≤ l.length + txtN l
  | [] => by simp [unL]
  | x :: l => by
    show (unP x ++ unL l).length ≤ _
    have h1 := unP_len x
    have h2 := unL_len l
    rw [List.length_append, txtN, List.map_cons, List.sum_cons, List.length_cons]
    unfold txtN at h2; omega
theorem lgi {H H0 : List AObj} {ps : List (Sl Piece)} {tg : Tag} {j : Nat} {p : Sl Piece} (hp : ps[j]? = some p) (hj : j < ps.length) (hpl : p.l.length ≤ maxL) (hpt : ∀ x ∈ p.l, x.text.length ≤ maxL) (hc : CutOk H0 H) (k : List Fra) : ∀ (n i : Nat) (n2 : Nat) (hn : n2 ≤ 1000000000000000000) (He : List AObj), i + n = (p.l).length →
    M.go a_truchmanlaw01_long H0 (.c l_truchmanlaw01_long_0 :: .lp ⟨(some [0, 3, 4, 5]), [], false⟩ l_truchmanlaw01_long_0 He :: .blk 2 :: .c (.lv [0, 3, 4]) :: k) (kv [(0, .slice tg 1 (ps.map plRow)), (3, .int .i64 n2), (4, .int .i64 j), (5, .int .i64 i)]) H =
      (M.go a_truchmanlaw01_long H0 k (kv [(0, .slice tg 1 (ps.map plRow)), (3, .int .i64 (lngP n2 (p.l.drop i) : Nat)), (4, .int .i64 j)]) (H))
  | 0, i, n2, hn, He, h => by
    have e : i = (p.l).length := by omega
    subst e
    rw [go_head M l_truchmanlaw01_long_0.eq_1]
    simp (maxSteps := 3000000) (maxDischargeDepth := 6) +contextual -implicitDefEqProofs only [amC M, ↓amD, Nat.reduceBEq, Nat.reduceAdd, env, fargs, q_truchmanlaw01_long, Nat.lt_irrefl, List.drop_length, hp, hpl, qPl, ias_row hj, lngP]
  | n + 1, i, n2, hn, He, h => by
    have hi : i < (p.l).length := by omega
    have hx : (p.l)[i]? = some (p.l)[i] := List.getElem?_eq_getElem hi
    have hd : ((p.l).drop i) = (p.l)[i] :: (p.l).drop (i + 1) := List.drop_eq_getElem_cons hi
    have hm : (p.l)[i] ∈ (p.l) := List.getElem_mem hi
    have ih := fun n2 hn He => lgi (H := H) (H0 := H0) (ps := ps) (tg := tg) (j := j) (p := p) (hp := hp) (hj := hj) (hpl := hpl) (hpt := hpt) hc k n (i + 1) n2 hn He (by omega)
    simp only [kv_cons, kv_nil] at ih
    have hij := ias_row (row := plRow) (tag := tg) (sz := 1) (k := .i64) hj
    have hir := ias_row (row := Piece.row) (tag := p.tag) (sz := 3) (k := .i64) hi
    have hwi := wrap_s (n := p.l.length) hi hpl
    have hmt := hpt _ hm
    by_cases h5 : n2 < 5000
    · have d5 : decide ((n2 : Int) < 5000) = true := decide_eq_true (by omega)
      have hw2 : IntKind.i64.wrap ((n2 : Int) + (p.l[i].text.length : Int)) = ((n2 + p.l[i].text.length : Nat) : Int) := by rw [wrap_i64 (by omega) (by simp only [maxL] at hmt; omega)]; omega
      have ih := ih (n2 + p.l[i].text.length) (by simp only [maxL] at hmt; omega)
      rw [hd, lngP, if_pos h5]
      rw [go_head M l_truchmanlaw01_long_0.eq_1]
      simp (maxSteps := 3000000) (maxDischargeDepth := 6) +contextual -implicitDefEqProofs only [amC M, ↓amD, Nat.reduceBEq, Nat.reduceAdd, env, fargs, q_truchmanlaw01_long, hi, hx, hp, hd, d5, ih, hij, hir, hwi, hw2, qPl, qPiece]
    · have d5 : decide ((n2 : Int) < 5000) = false := decide_eq_false (by omega)
      rw [lngP_ge _ _ (by omega)]
      rw [go_head M l_truchmanlaw01_long_0.eq_1]
      simp (maxSteps := 3000000) (maxDischargeDepth := 6) +contextual -implicitDefEqProofs only [amC M, ↓amD, Nat.reduceBEq, Nat.reduceAdd, env, fargs, q_truchmanlaw01_long, hi, hx, hp, hd, d5, hij, hir, qPl, qPiece]
theorem lgo {H H0 : List AObj} {ps : List (Sl Piece)} {tg : Tag} (hps : ps.length ≤ 100) (hpl : ∀ p ∈ ps, p.l.length ≤ maxL ∧ ∀ x ∈ p.l, x.text.length ≤ maxL) (hc : CutOk H0 H) (k : List Fra) : ∀ (n i : Nat) (n2 : Nat) (hn : n2 ≤ i * 300000000000000) (He : List AObj), i + n = ps.length →
    M.go a_truchmanlaw01_long H0 (.c l_truchmanlaw01_long_1 :: .lp ⟨(some [0, 3, 4]), [], false⟩ l_truchmanlaw01_long_1 He :: .blk 0 :: .c (.lv [3]) :: k) (kv [(0, .slice tg 1 (ps.map plRow)), (3, .int .i64 n2), (4, .int .i64 i)]) H =
      (M.go a_truchmanlaw01_long H0 k (kv [(3, .int .i64 (lngL n2 (ps.drop i) : Nat))]) (H))
  | 0, i, n2, hn, He, h => by
    have e : i = ps.length := by omega
    subst e
    rw [go_head M l_truchmanlaw01_long_1.eq_1]
    simp (maxSteps := 3000000) (maxDischargeDepth := 6) +contextual -implicitDefEqProofs only [amC M, ↓amD, Nat.reduceBEq, Nat.reduceAdd, env, fargs, q_truchmanlaw01_long, Nat.lt_irrefl, List.drop_length, lngL]
  | n + 1, i, n2, hn, He, h => by
    have hi : i < ps.length := by omega
    have hx : ps[i]? = some ps[i] := List.getElem?_eq_getElem hi
    have hd : (ps.drop i) = ps[i] :: ps.drop (i + 1) := List.drop_eq_getElem_cons hi
    have hm : ps[i] ∈ ps := List.getElem_mem hi
    have ih := fun n2 hn He => lgo (H := H) (H0 := H0) (ps := ps) (tg := tg) (hps := hps) (hpl := hpl) hc k n (i + 1) n2 hn He (by omega)
    simp only [kv_cons, kv_nil] at ih
    have hij := ias_row (row := plRow) (tag := tg) (sz := 1) (k := .i64) hi
    have hwi := wrap_s (n := ps.length) hi (by simp only [maxL]; omega)
    have hq := hpl _ hm
    have hq1 : ps[i].l.length ≤ 140737488351232 := hq.1
    have hw2 : IntKind.i64.wrap ((n2 : Int) + (ps[i].l.length : Int)) = ((n2 + ps[i].l.length : Nat) : Int) := by rw [wrap_i64 (by omega) (by omega)]; omega
    have hb := lngP_le2 ps[i].l (n2 + ps[i].l.length) hq.2
    have hz := fun k He => lgi M (H := H) (H0 := H0) (ps := ps) (tg := tg) (j := i) (p := ps[i]) hx hi hq.1 hq.2 hc k ps[i].l.length 0 (n2 + ps[i].l.length) (by omega) He (by omega)
    have ih := ih (lngP (n2 + ps[i].l.length) ps[i].l) (by simp only [maxL] at hb; omega)
    simp only [kv_cons, kv_nil, Int.ofNat_zero, List.drop_zero] at hz
    rw [hd, lngL]
    rw [go_head M l_truchmanlaw01_long_1.eq_1]
    simp (maxSteps := 3000000) (maxDischargeDepth := 6) +contextual -implicitDefEqProofs only [amC M, ↓amD, Nat.reduceBEq, Nat.reduceAdd, env, fargs, q_truchmanlaw01_long, hi, hx, ih, hz, hij, hwi, hw2, qPl, List.length_map]
theorem run_long (hB : BasE E) {ps : List (Sl Piece)} {tg : Tag} (hps : ps.length ≤ 100) (hpl : ∀ p ∈ ps, p.l.length ≤ maxL ∧ ∀ x ∈ p.l, x.text.length ≤ maxL) (H : List AObj) :
    M.run f_truchmanlaw01_long [.slice tg 1 (ps.map plRow)] H = some (.ret (.bool (longF ps)), H) := by
  rw [run_c M hB.truchmanlaw01_long rfl (c := c_truchmanlaw01_long) rfl, c_truchmanlaw01_long]
  have h1 := fun k He => lgo M (tg := tg) hps hpl (cut_refl H) k ps.length 0 0 (by omega) He (by omega)
  simp only [kv_cons, kv_nil, Int.ofNat_zero, List.drop_zero] at h1
  have h2 : decide ((2500 : Int) < (lngL 0 ps : Int)) = decide (2500 < lngL 0 ps) := by rw [Bool.eq_iff_iff]; simp; omega
  simp (maxSteps := 3000000) (maxDischargeDepth := 6) +contextual -implicitDefEqProofs only [amC M, ↓amD, Nat.reduceBEq, Nat.reduceAdd, env, fargs, q_truchmanlaw01_long, h1, h2, longF]
theorem run_long1 (hB : BasE E) {l : Sl Piece} (h : l.ok 0 (Piece.ok 0)) (H : List AObj) : M.run f_truchmanlaw01_long [.slice .full 1 [[.slice l.tag.strip 3 (l.l.map Piece.row)]]] H = some (.ret (.bool (longF [l])), H) :=
  run_long M hB (tg := .full) (ps := [⟨l.tag.strip, l.l⟩]) (by simp) (fun p hp => by
    rw [List.mem_singleton] at hp; subst hp
    exact ⟨h.len, fun x hx => (h.all x hx).text⟩) H
end Go.Am
end

section
set_option linter.unusedSimpArgs false
set_option linter.unusedVariables false
set_option maxRecDepth 100000
set_option maxHeartbeats 4000000
namespace Go.Am
open Go.RowKit
attribute [local congr] dsel_congr sel_c1 slc_cong gsel_congr go_congr aft_congr aftD_congr condR_congr backR_congr inR_congr at2_congr
variable {E : REnv} (M : Mach cdec E)

/-! A cutter: its parts, and how a piece is put into the last one -/
structure CutE (E : REnv) : Prop where
  docs_cutter_put : E.fn f_docs_cutter_put = some a_docs_cutter_put
  docs_cutter_turn : E.fn f_docs_cutter_turn = some a_docs_cutter_turn
  docs_cutter_unit : E.fn f_docs_cutter_unit = some a_docs_cutter_unit
  docs_cutter_tag : E.fn f_docs_cutter_tag = some a_docs_cutter_tag
  slices_IndexFunc_api_Piece_api_Piece : E.fn f_slices_IndexFunc_api_Piece_api_Piece = some a_slices_IndexFunc_api_Piece_api_Piece
  slices_ContainsFunc_api_Piece_api_Piece : E.fn f_slices_ContainsFunc_api_Piece_api_Piece = some a_slices_ContainsFunc_api_Piece_api_Piece
  docs_cut_1 : E.fn f_docs_cut_1 = some a_docs_cut_1
  docs_cut : E.fn f_docs_cut = some a_docs_cut
  docs_Cut : E.fn f_docs_Cut = some a_docs_Cut
  truchmanref01_add : E.fn f_truchmanref01_add = some a_truchmanref01_add
  truchmanref01_single : E.fn f_truchmanref01_single = some a_truchmanref01_single
  truchmanref01_Cut : E.fn f_truchmanref01_Cut = some a_truchmanref01_Cut
  docs_ends : E.fn f_docs_ends = some a_docs_ends
  slices_Reverse_string_string : E.fn f_slices_Reverse_string_string = some a_slices_Reverse_string_string
  slices_Equal_string_string : E.fn f_slices_Equal_string_string = some a_slices_Equal_string_string
  docs_Glue : E.fn f_docs_Glue = some a_docs_Glue
  truchmanref01_ends : E.fn f_truchmanref01_ends = some a_truchmanref01_ends
  truchmanref01_Glue : E.fn f_truchmanref01_Glue = some a_truchmanref01_Glue
  truchmanlaw01_DocsCuts : E.fn f_truchmanlaw01_DocsCuts = some a_truchmanlaw01_DocsCuts
def pcC (l : List Piece) : List AV := (l.map Piece.row).flatten
theorem pcC_app (l m : List Piece) : pcC (l ++ m) = pcC l ++ pcC m := by simp [pcC]
theorem pcC_one (x : Piece) : pcC [x] = [.int .u8 x.kind, .str x.text, .bool x.car] := rfl
theorem pcC_len : ∀ l : List Piece, (pcC l).length = l.length * 3
  | [] => rfl
  | x :: l => by
    have := pcC_len l
    rw [show pcC (x :: l) = pcC [x] ++ pcC l from pcC_app [x] l, List.length_append, this, pcC_one, List.length_cons]; simp; omega
def PcV (H : List AObj) (v : AV) (l : List Piece) : Prop := (l = [] ∧ v = .slice .nil 3 []) ∨ (l ≠ [] ∧ ∃ Q, v = .rslice Q 0 l.length 3 true ∧ H[Q]? = some (.cells (pcC l) t_api_Piece))
def below (q : Nat) (v : AV) : Prop := ∀ Q o n e r, v = .rslice Q o n e r → Q < q
def above (q : Nat) (v : AV) : Prop := ∀ Q o n e r, v = .rslice Q o n e r → q ≤ Q
def OpV (H : List AObj) (v : AV) (l : List Str) : Prop := (l = [] ∧ v = .slice .nil 1 []) ∨ ∃ O junk, v = .rslice O 0 l.length 1 true ∧ H[O]? = some (.cells (strC l ++ junk) t_string)
/-- A piece is put behind others: texts come together. -/
def putF (l : List Piece) (p : Piece) : List Piece :=
  match l.getLast? with
  | some x => sel (p.kind == 1 && x.kind == 1) (l.dropLast ++ [{ x with text := x.text ++ p.text }]) (l ++ [p])
  | none => [p]
structure CSt where
  done : List (List Piece)
  cur : List Piece
  pos : List Int
  place : Nat
  due : Bool
  opn : List Str
/-- It lies at none of these. -/
def free (R : Nat → Prop) (v : AV) : Prop := ∀ Q o n e r, v = .rslice Q o n e r → ¬ R Q
structure CutW (R : Nat → Prop) (c : Nat) (H : List AObj) (S : CSt) (P q : Nat) (vs : List AV) (v : AV) (ta : Tag) (ov : AV) : Prop where
  hn : ¬ R c
  hP : ¬ R P
  rl : ∀ i, R i → i < H.length
  cell : H[c]? = some (.cells [.rslice P 0 (S.done.length + 1) 1 true, .slice ta 1 (S.pos.map intRow), .int .i64 S.place, .bool S.due, ov] t_docs_cutter)
  par : H[P]? = some (.cells (vs ++ [v]) t_sl_api_Piece)
  len : vs.length = S.done.length
  dn : ∀ (i : Nat) (w : AV) (l : List Piece), vs[i]? = some w → S.done[i]? = some l → PcV H w l ∧ below q w ∧ free R w
  cr : PcV H v S.cur
  ab : above q v
  pr : free R v
  ql : q ≤ H.length
  op : OpV H ov S.opn
  oa : free R ov
  tg : ta = .any ∨ ta = .some ∨ S.pos = []
def CutV (R : Nat → Prop) (c : Nat) (H : List AObj) (S : CSt) : Prop := ∃ P q vs v ta ov, CutW R c H S P q vs v ta ov
/-- What is kept stays, and what iterates over strings. -/
structure Frm (R : Nat → Prop) (H H' : List AObj) : Prop where
  len : H.length ≤ H'.length
  low : ∀ i, R i → H'[i]? = H[i]?
  it : ∀ (i : Nat) s pos, H[i]? = some (.siter s pos) → H'[i]? = some (.siter s pos)
theorem Frm.refl (R : Nat → Prop) (H : List AObj) : Frm R H H := ⟨Nat.le_refl _, fun _ _ => rfl, fun _ _ _ h => h⟩
theorem Frm.trans {R : Nat → Prop} {A B C : List AObj} (h : Frm R A B) (k : Frm R B C) : Frm R A C := ⟨Nat.le_trans h.len k.len, fun i hi => (k.low i hi).trans (h.low i hi), fun i s p e => k.it i s p (h.it i s p e)⟩
theorem Frm.mono {R R' : Nat → Prop} {A B : List AObj} (h : Frm R A B) (hr : ∀ i, R' i → R i) : Frm R' A B := ⟨h.len, fun i hi => h.low i (hr i hi), h.it⟩
theorem Frm.app {R : Nat → Prop} (H X : List AObj) (hn : ∀ i, R i → i < H.length) : Frm R H (H ++ X) := ⟨by simp, fun i hi => List.getElem?_append_left (hn i hi), fun i s p h => hp_getl h⟩
theorem Frm.set {R : Nat → Prop} {H : List AObj} {k : Nat} {cs : List AV} {T : TypeId} (x : AObj) (hk : ¬ R k) (h : H[k]? = some (.cells cs T)) : Frm R H (H.set k x) :=
  ⟨by simp, fun i hi => List.getElem?_set_ne (fun e => hk (by rw [e]; exact hi)), fun i s p e => by
    rw [List.getElem?_set_ne (fun ek => by subst ek; rw [h] at e; cases e)]; exact e⟩
theorem PcV.stay {H H' : List AObj} {v : AV} {l : List Piece} (h : PcV H v l) (hs : ∀ (Q : Nat) (cs : List AV), v = .rslice Q 0 l.length 3 true → H[Q]? = some (AObj.cells cs t_api_Piece) → H'[Q]? = some (AObj.cells cs t_api_Piece)) : PcV H' v l := by
  rcases h with h | ⟨h1, Q, h2, h3⟩
  · exact .inl h
  · exact .inr ⟨h1, Q, h2, hs Q _ h2 h3⟩
theorem OpV.stay {H H' : List AObj} {v : AV} {l : List Str} (h : OpV H v l) (hs : ∀ (O : Nat) (cs : List AV), H[O]? = some (AObj.cells cs t_string) → H'[O]? = some (AObj.cells cs t_string)) : OpV H' v l := by
  rcases h with h | ⟨O, junk, h1, h2⟩
  · exact .inl h
  · exact .inr ⟨O, junk, h1, hs O _ h2⟩
theorem get_set_T {H : List AObj} {k i : Nat} {x : AObj} {cs ds : List AV} {T T' : TypeId} (hk : H[k]? = some (.cells ds T')) (hT : T ≠ T') (h : H[i]? = some (.cells cs T)) : (H.set k x)[i]? = some (.cells cs T) := by
  rw [List.getElem?_set_ne (fun e => by subst e; rw [hk] at h; cases h; exact hT rfl)]; exact h
theorem t_ne1 : t_api_Piece ≠ t_docs_cutter := by decide
theorem t_ne2 : t_api_Piece ≠ t_sl_api_Piece := by decide
theorem t_ne3 : t_string ≠ t_api_Piece := by decide
theorem t_ne4 : t_string ≠ t_sl_api_Piece := by decide
theorem t_ne5 : t_string ≠ t_docs_cutter := by decide
theorem t_ne6 : t_sl_api_Piece ≠ t_docs_cutter := by decide
theorem lenPcV {H G : List AObj} {v : AV} {l : List Piece} (h : PcV H v l) : rlen G .sl v = some (.int .i64 (l.length : Int)) := by
  rcases h with ⟨rfl, rfl⟩ | ⟨_, Q, rfl, _⟩ <;> rfl
theorem rowsOk_pc (p : Piece) : rowsOk 3 [p.row] = true := rfl
theorem cell_PcV {H : List AObj} {v : AV} {l : List Piece} (h : PcV H v l) : v.cell = true ∧ acells v = some [v] := by
  rcases h with ⟨rfl, rfl⟩ | ⟨_, Q, rfl, _⟩ <;> exact ⟨rfl, rfl⟩
/-- A piece is appended. -/
theorem ap_pc {G : List AObj} {v : AV} {l : List Piece} (h : PcV G v l) (hl : l.length ≤ 1000000) (p : Piece) :
    ∃ G', rap true G t_api_Piece 3 32 false v (.slice .full 3 [p.row]) = some (.rslice G.length 0 (l.length + 1) 3 true, G') ∧ G'[G.length]? = some (.cells (pcC (l ++ [p])) t_api_Piece) ∧ G'.length = G.length + 1 ∧ ∀ i, i < G.length → (∀ Q, v = .rslice Q 0 l.length 3 true → i ≠ Q) → G'[i]? = G[i]? := by
  rcases h with ⟨rfl, rfl⟩ | ⟨_, Q, rfl, hg⟩
  · refine ⟨G ++ [.cells (pcC [p]) t_api_Piece], ?_, by rw [hp_get0]; rfl, by simp, fun i hi _ => List.getElem?_append_left hi⟩
    simp only [rap, rappM, rsrc, or_true, if_true, rowsOk_pc]
    rw [if_pos (by simp)]
    rfl
  · have hlt := lt_get hg
    have hlen : l.length * 3 ≤ (pcC l).length := by rw [pcC_len]; omega
    refine ⟨G.set Q .dead ++ [.cells (pcC (l ++ [p])) t_api_Piece], ?_, ?_, by simp, fun i hi hne => ?_⟩
    · simp only [rap, rappM, rsrc, or_true, if_true, rowsOk_pc, hg]
      rw [if_pos ⟨trivial, trivial, hlen, by simp; omega, by simp; omega⟩]
      rw [List.take_of_length_le (by rw [pcC_len]; omega), pcC_app]
      rfl
    · rw [show G.length = (G.set Q .dead).length by simp, hp_get0]; rfl
    · rw [List.getElem?_append_left (by simp; omega), List.getElem?_set_ne (fun e => hne Q rfl e.symm)]
theorem ias_pc {id n i : Nat} (h : i < n) (k : IntKind) : rias 3 (.rslice id 0 n 3 true) (.int k (i : Int)) = some (.ptr id (i * 3)) := by
  simp only [rias]
  rw [if_pos ⟨trivial, by omega, by simp; omega⟩]; simp
theorem ias_par {id n i : Nat} (h : i < n) (k : IntKind) : rias 1 (.rslice id 0 n 1 true) (.int k (i : Int)) = some (.ptr id i) := by
  simp only [rias]
  rw [if_pos ⟨trivial, by omega, by simp; omega⟩]; simp
theorem ld_last (l : List Piece) (x : Piece) : rload none (pcC (l ++ [x])) (l.length * 3) = some (.int .u8 x.kind) ∧ rload none (pcC (l ++ [x])) (l.length * 3 + 1) = some (.str x.text) := by
  have hl := pcC_len l
  refine ⟨?_, ?_⟩
  · simp only [rload, pcC_app]
    rw [List.getElem?_append_right (by omega), hl, Nat.sub_self, pcC_one]; rfl
  · simp only [rload, pcC_app]
    rw [List.getElem?_append_right (by omega), hl, show l.length * 3 + 1 - l.length * 3 = 1 by omega, pcC_one]; rfl
theorem st_last (l : List Piece) (x : Piece) (s : Str) : setRow (pcC (l ++ [x])) (l.length * 3 + 1) [.str s] = pcC (l ++ [{ x with text := s }]) := by
  rw [setRow_cons, setRow_nil, pcC_app, pcC_app, List.set_append_right _ _ (by rw [pcC_len]; omega), pcC_len, show l.length * 3 + 1 - l.length * 3 = 1 by omega]; rfl
end Go.Am
end

section
set_option linter.unusedSimpArgs false
set_option linter.unusedVariables false
set_option maxRecDepth 100000
set_option maxHeartbeats 4000000
namespace Go.Am
open Go.RowKit
attribute [local congr] dsel_congr sel_c1 slc_cong gsel_congr go_congr aft_congr aftD_congr condR_congr backR_congr inR_congr at2_congr
variable {E : REnv} (M : Mach cdec E)

/-! A cutter takes a piece -/
theorem cl5 : (∀ a b c d e : AV, rload none [a, b, c, d, e] 0 = some a) ∧ (∀ a b c d e : AV, rload none [a, b, c, d, e] 1 = some b) ∧ (∀ a b c d e : AV, rload none [a, b, c, d, e] 2 = some c) ∧ (∀ a b c d e : AV, rload none [a, b, c, d, e] 3 = some d) ∧ (∀ a b c d e : AV, rload none [a, b, c, d, e] 4 = some e) :=
  ⟨fun _ _ _ _ _ => rfl, fun _ _ _ _ _ => rfl, fun _ _ _ _ _ => rfl, fun _ _ _ _ _ => rfl, fun _ _ _ _ _ => rfl⟩
def dynA2 (o : Option Nat) (T L : List Nat) : Option (List Nat × List Nat) :=
  match o with
  | some id => some (T, id :: L)
  | none => some (T, L)
def dynS (o : Option Nat) (T L : List Nat) : Option (List Nat × List Nat) :=
  match o with
  | some id => some (id :: T, L)
  | none => none
theorem dyK : (∀ (a : Env) (g : Option Nat) (x : RX) (T L : List Nat), dynOp true .wide a (.ld g x) T L = dynA2 (aboutR (rx a x)) T L) ∧ (∀ (a : Env) (g : LK) (x : RX) (T L : List Nat), dynOp true .wide a (.len g x) T L = dynA2 (aboutR (rx a x)) T L) ∧
    (∀ (s : Bool) (a : Env) (n : Nat) (x v : RX) (T L : List Nat), dynOp s .keep a (.st n x v) T L = dynS (aboutR (rx a x)) T L) ∧ (∀ (s : Bool) (a : Env) (g : Option Nat) (x : RX) (T L : List Nat), dynOp s .quiet a (.ld g x) T L = some (T, L)) ∧
    (∀ i o, aboutR (.ptr i o) = some i) ∧ (∀ i o n e r, aboutR (.rslice i o n e r) = some i) ∧ (∀ t n r, aboutR (.slice t n r) = none) ∧ (∀ s, aboutR (.str s) = none) ∧ (∀ e r i o, aboutR (.vptr e r i o) = none) ∧ (∀ (id : Nat) (T L : List Nat), dynA2 (some id) T L = some (T, id :: L)) ∧ (∀ T L : List Nat, dynA2 none T L = some (T, L)) ∧ (∀ (id : Nat) (T L : List Nat), dynS (some id) T L = some (id :: T, L)) :=
  ⟨fun _ _ _ _ _ => rfl, fun _ _ _ _ _ => rfl, fun _ _ _ _ _ _ _ => rfl, fun _ _ _ _ _ _ => rfl, fun _ _ => rfl, fun _ _ _ _ _ => rfl, fun _ _ _ => rfl, fun _ => rfl, fun _ _ _ _ => rfl, fun _ _ _ => rfl, fun _ _ => rfl, fun _ _ _ => rfl⟩
theorem apartR_ok {T L : List Nat} (h : apart T L) (r : Option Out) : apartR cdec T L r = r := by
  unfold apartR
  rw [cdec_ap h]
theorem apart_21 {a b c : Nat} (h1 : c ≠ a) (h2 : c ≠ b) : apart [a, b] [c] := fun x hx => by
  rw [List.mem_singleton] at hx; subst hx; simp [h1, h2]
theorem apart_11 {a c : Nat} (h1 : c ≠ a) : apart [a] [c] := fun x hx => by
  rw [List.mem_singleton] at hx; subst hx; simp [h1]
theorem ne_T {H : List AObj} {i j : Nat} {cs ds : List AV} {T T' : TypeId} (h1 : H[i]? = some (.cells cs T)) (h2 : H[j]? = some (.cells ds T')) (hT : T ≠ T') : i ≠ j := fun e => by
  subst e
  rw [h1] at h2
  injection h2 with h2
  injection h2 with _ h3
  exact hT h3
theorem ptr_Q {H : List AObj} {v : AV} {l : List Piece} (h : PcV H v l) {Q : Nat} (e : v = .rslice Q 0 l.length 3 true) : ∃ cs, H[Q]? = some (.cells cs t_api_Piece) := by
  rcases h with ⟨_, h⟩ | ⟨_, Q', h1, h2⟩
  · rw [h] at e; cases e
  · rw [h1] at e; cases e; exact ⟨_, h2⟩
/-- What holds strings stays. -/
def StK (H H' : List AObj) : Prop := ∀ (O : Nat) (cs : List AV), H[O]? = some (AObj.cells cs t_string) → H'[O]? = some (AObj.cells cs t_string)
theorem CutW.turned {R : Nat → Prop} {c : Nat} {H H2 : List AObj} {S : CSt} {P q : Nat} {vs : List AV} {v w : AV} {ta : Tag} {ov : AV} (h : CutW R c H S P q vs v ta ov) {cur : List Piece}
    (hlen : H.length ≤ H2.length) (hs : ∀ i y, H[i]? = some y → (∀ Q, v = .rslice Q 0 S.cur.length 3 true → i ≠ Q) → i ≠ P → H2[i]? = some y)
    (hpar : H2[P]? = some (.cells (vs ++ [w]) t_sl_api_Piece)) (hw : PcV H2 w cur) (hwa : above q w) (hwf : free R w) : CutW R c H2 { S with cur := cur } P q vs w ta ov ∧ Frm R H H2 ∧ StK H H2 := by
  have hP := h.par
  have nq : ∀ (i : Nat) (cs : List AV) (T : TypeId), H[i]? = some (.cells cs T) → T ≠ t_api_Piece → ∀ Q, v = .rslice Q 0 S.cur.length 3 true → i ≠ Q := fun i cs T hi hT Q e ei => by
    obtain ⟨ds, hd⟩ := ptr_Q h.cr e
    subst ei; rw [hi] at hd; cases hd; exact hT rfl
  have np : ∀ (i : Nat) (cs : List AV) (T : TypeId), H[i]? = some (.cells cs T) → T ≠ t_sl_api_Piece → i ≠ P := fun i cs T hi hT ei => by
    subst ei; rw [hi] at hP; cases hP; exact hT rfl
  have hlow : ∀ i, R i → H2[i]? = H[i]? := fun i hi => by
    have hin := h.rl i hi
    rw [List.getElem?_eq_getElem hin]
    refine hs i _ (List.getElem?_eq_getElem hin) (fun Q e ei => ?_) (fun e => ?_)
    · exact h.pr Q _ _ _ _ e (ei ▸ hi)
    · exact h.hP (e ▸ hi)
  refine ⟨⟨h.hn, h.hP, fun i hi => Nat.lt_of_lt_of_le (h.rl i hi) hlen, hs c _ h.cell (nq c _ _ h.cell t_ne1.symm) (np c _ _ h.cell t_ne6.symm), hpar, h.len, fun i w' l hi hl => ?_, hw, hwa, hwf, Nat.le_trans h.ql hlen, h.op.stay fun O cs hO => hs O _ hO (nq O _ _ hO t_ne3) (np O _ _ hO t_ne4), h.oa, h.tg⟩, ⟨hlen, hlow, fun i s pos hi => hs i _ hi (fun Q e ei => ?_) (fun e => ?_)⟩, fun O cs hO => hs O _ hO (nq O _ _ hO t_ne3) (np O _ _ hO t_ne4)⟩
  · obtain ⟨h1, h2, h3⟩ := h.dn i w' l hi hl
    refine ⟨h1.stay fun Q cs e hQ => hs Q _ hQ (fun Q' e' ei => ?_) (np Q _ _ hQ t_ne2), h2, h3⟩
    have a1 := h2 Q _ _ _ _ e
    have a2 := h.ab Q' _ _ _ _ e'
    omega
  · obtain ⟨ds, hd⟩ := ptr_Q h.cr e
    subst ei; rw [hi] at hd; cases hd
  · subst e; rw [hi] at hP; cases hP
theorem putF_snoc (l : List Piece) (x p : Piece) : putF (l ++ [x]) p = sel (p.kind == 1 && x.kind == 1) (l ++ [{ x with text := x.text ++ p.text }]) (l ++ [x] ++ [p]) := by
  unfold putF
  rw [List.getLast?_concat, List.dropLast_concat]
theorem run_put (hC : CutE E) {R : Nat → Prop} {c : Nat} {H : List AObj} {S : CSt} (hS : CutV R c H S) (hd : S.done.length ≤ 1000000) (hcu : S.cur.length ≤ 1000000) (hct : ∀ x ∈ S.cur, x.text.length ≤ 1000000) {p : Piece} (hp : p.text.length ≤ 1000000) :
    ∃ H', M.run f_docs_cutter_put [.ptr c 0, .agg p.row] H = some (.ret (.tuple []), H') ∧ CutV R c H' { S with cur := putF S.cur p } ∧ Frm R H H' ∧ StK H H' := by
  obtain ⟨P, q, vs, v, ta, ov, h⟩ := hS
  obtain ⟨done, cur, pos, place, due, opn⟩ := S
  dsimp only at hd hcu hct
  have hvs := h.len
  dsimp only at hvs
  have hc1 : ∀ X, (H ++ X)[c]? = _ := fun X => hp_getl h.cell
  have hp1 : ∀ X, (H ++ X)[P]? = _ := fun X => hp_getl h.par
  have hia := ias_par (id := P) (n := done.length + 1) (i := done.length) (by omega) .i64
  have hld : rload none (vs ++ [v]) done.length = some v := by
    simp only [rload]; rw [← hvs, List.getElem?_append_right (Nat.le_refl _), Nat.sub_self]; rfl
  have hw1 : IntKind.i64.wrap (((done.length + 1 : Nat) : Int) - 1) = (done.length : Int) := by rw [wrap_i64 (by omega) (by omega)]; omega
  have hln := fun G => lenPcV (G := G) h.cr
  dsimp only at hln
  have hcr := h.cr
  dsimp only at hcr
  have hcr1 : PcV (H ++ [.cells p.row t_api_Piece]) v cur := hcr.stay fun Q cs _ hQ => hp_getl hQ
  -- a piece more
  have more : putF cur p = cur ++ [p] → ∀ k : Int, True → ∃ w G, rap true (H ++ [.cells p.row t_api_Piece]) t_api_Piece 3 32 false v (.slice .full 3 [p.row]) = some (w, G) ∧ (G[P]? = some (.cells (vs ++ [v]) t_sl_api_Piece)) ∧
      stO 1 G P done.length [w] (some (.cells (vs ++ [v]) t_sl_api_Piece)) = some (G.set P (.cells (vs ++ [w]) t_sl_api_Piece)) ∧ acells w = some [w] ∧ CutV R c (G.set P (.cells (vs ++ [w]) t_sl_api_Piece)) ⟨done, putF cur p, pos, place, due, opn⟩ ∧ Frm R H (G.set P (.cells (vs ++ [w]) t_sl_api_Piece)) ∧ StK H (G.set P (.cells (vs ++ [w]) t_sl_api_Piece)) := fun hpf _ _ => by
    obtain ⟨G, a1, a2, a3, a4⟩ := ap_pc hcr1 hcu p
    have hPlt := lt_get h.par
    have hlen1 : (H ++ [AObj.cells p.row t_api_Piece]).length = H.length + 1 := by simp
    rw [hlen1] at a1 a2 a3 a4
    have nQ : ∀ Q, v = .rslice Q 0 cur.length 3 true → P ≠ Q := fun Q e ei => by
      obtain ⟨ds, hds⟩ := ptr_Q hcr e
      subst ei; rw [h.par] at hds; cases hds
    have gP : G[P]? = some (.cells (vs ++ [v]) t_sl_api_Piece) := by rw [a4 P (by omega) nQ]; exact hp1 _
    refine ⟨_, G, a1, gP, ?_, rfl, ?_⟩
    · rw [stO_cells (sz := 1) rfl (by simp; omega) rfl, setRow_cons, setRow_nil, ← hvs, List.set_append_right _ _ (Nat.le_refl _), Nat.sub_self]; rfl
    · have := h.turned (H2 := G.set P (.cells (vs ++ [.rslice (H.length + 1) 0 (cur.length + 1) 3 true]) t_sl_api_Piece)) (cur := putF cur p) (w := .rslice (H.length + 1) 0 (cur.length + 1) 3 true) (by simp; omega) (fun i y hi hne hiP => by
        rw [List.getElem?_set_ne hiP.symm, a4 i (by have := (List.getElem?_eq_some_iff.1 hi).1; omega) hne]; exact hp_getl hi) (List.getElem?_set_self (by omega)) (.inr ⟨by rw [hpf]; simp, H.length + 1, by rw [hpf]; simp, by rw [List.getElem?_set_ne (by omega), a2, hpf]⟩) (fun Q o n e r eq => by cases eq; have := h.ql; omega) (fun Q o n e r eq hR => by cases eq; have := h.rl _ hR; omega)
      exact ⟨⟨P, q, vs, _, ta, ov, this.1⟩, this.2⟩
  have r1 : ∀ H, runit (some H) = some (undefA, H) := fun _ => rfl
  have gx := fun X => hp_get0 H X
  have ncP : c ≠ P := ne_T h.cell h.par t_ne6.symm
  have ncQ : ∀ Q, v = .rslice Q 0 cur.length 3 true → c ≠ Q := fun Q e ei => by
    obtain ⟨ds, hds⟩ := ptr_Q hcr e
    exact ne_T h.cell hds t_ne1.symm ei
  have ab : aboutA v = none ∨ ∃ Q, aboutA v = some Q ∧ c ≠ Q := by
    rcases hcr with ⟨_, rfl⟩ | ⟨_, Q, rfl, _⟩
    · exact .inl rfl
    · exact .inr ⟨Q, rfl, ncQ Q rfl⟩
  rcases (show cur = [] ∨ ∃ l x, cur = l ++ [x] by
    rcases List.eq_nil_or_concat cur with h | ⟨l, x, h⟩
    · exact .inl h
    · exact .inr ⟨l, x, by simpa using h⟩) with rfl | ⟨l, x, rfl⟩
  · obtain ⟨w, G, m1, m2, m3, m4, m5, m6⟩ := more rfl 0 trivial
    refine ⟨_, ?_, m5, m6⟩
    have d0 : decide ((0 : Int) < ((0 : Nat) : Int)) = false := rfl
    rw [run_c M hC.docs_cutter_put rfl (c := c_docs_cutter_put) rfl, c_docs_cutter_put]
    have ab0 : aboutA v = none := by
      rcases hcr with ⟨_, rfl⟩ | ⟨h, _⟩
      · rfl
      · exact absurd rfl h
    have aa := apartR_ok (apart_11 ncP)
    cases hk : p.kind == 1 <;> simp (maxSteps := 3000000) (maxDischargeDepth := 6) +contextual -implicitDefEqProofs only [amC M, ↓amD, Nat.reduceBEq, Nat.reduceAdd, env, fargs, q_docs_cutter_put, amG, AV.cell, Nat.reduceMul, Nat.reduceLeDiff, rnc, hc1, hp1, gx, cl5, hia, hld, hw1, hln, hk, d0, qPiece, List.getElem?_cons_zero, m1, m2, m3, m4, r1, dyK, amZ, ab0, aa]
  · obtain ⟨⟨Q, e1, e2⟩⟩ : Nonempty (∃ Q, v = .rslice Q 0 (l.length + 1) 3 true ∧ H[Q]? = some (.cells (pcC (l ++ [x])) t_api_Piece)) := by
      rcases hcr with ⟨h0, _⟩ | ⟨_, Q, h1, h2⟩
      · simp at h0
      · exact ⟨⟨Q, by simpa using h1, h2⟩⟩
    have hl : l.length ≤ 1000000 := by simp at hcu; omega
    have hxt := hct x (by simp)
    have d1 : decide ((0 : Int) < (((l ++ [x]).length : Nat) : Int)) = true := decide_eq_true (by simp)
    have hw2 : IntKind.i64.wrap ((((l ++ [x]).length : Nat) : Int) - 1) = (l.length : Int) := by rw [wrap_i64 (by simp) (by simp; omega)]; simp
    have hiq : rias 3 v (.int .i64 (l.length : Int)) = some (.ptr Q (l.length * 3)) := by rw [e1]; exact ias_pc (by omega) _
    have hQ1 : ∀ X, (H ++ X)[Q]? = _ := fun X => hp_getl e2
    obtain ⟨q1, q2⟩ := ld_last l x
    have ab1 : aboutA v = some Q := by rw [e1]; rfl
    have aa := apartR_ok (apart_21 ncP (ncQ Q (by rw [e1]; simp)))
    generalize hn : (l ++ [x]).length = n at d1 hw2 hln
    cases hk : p.kind == 1 with
    | false =>
      obtain ⟨w, G, m1, m2, m3, m4, m5, m6⟩ := more (by rw [putF_snoc, hk]; rfl) 0 trivial
      refine ⟨_, ?_, m5, m6⟩
      rw [run_c M hC.docs_cutter_put rfl (c := c_docs_cutter_put) rfl, c_docs_cutter_put]
      simp (maxSteps := 3000000) (maxDischargeDepth := 6) +contextual -implicitDefEqProofs only [amC M, ↓amD, Nat.reduceBEq, Nat.reduceAdd, env, fargs, q_docs_cutter_put, amG, AV.cell, Nat.reduceMul, Nat.reduceLeDiff, rnc, hc1, hp1, gx, cl5, hia, hld, hw1, hln, hk, d1, qPiece, List.getElem?_cons_zero, m1, m2, m3, m4, r1, dyK, amZ, ab1, aa, Nat.add_zero]
    | true =>
      cases hx : x.kind == 1 with
      | false =>
        obtain ⟨w, G, m1, m2, m3, m4, m5, m6⟩ := more (by rw [putF_snoc, hk, hx]; rfl) 0 trivial
        refine ⟨_, ?_, m5, m6⟩
        rw [run_c M hC.docs_cutter_put rfl (c := c_docs_cutter_put) rfl, c_docs_cutter_put]
        simp (maxSteps := 3000000) (maxDischargeDepth := 6) +contextual -implicitDefEqProofs only [amC M, ↓amD, Nat.reduceBEq, Nat.reduceAdd, env, fargs, q_docs_cutter_put, amG, AV.cell, Nat.reduceMul, Nat.reduceLeDiff, rnc, hc1, hp1, gx, cl5, hia, hld, hw1, hln, hk, hx, d1, hw2, hiq, hQ1, q1, qPiece, List.getElem?_cons_zero, m1, m2, m3, m4, r1, dyK, amZ, ab1, aa, Nat.add_zero]
      | true =>
        have hpf : putF (l ++ [x]) p = l ++ [{ x with text := x.text ++ p.text }] := by rw [putF_snoc, hk, hx]; rfl
        have ha := st_addO (s := x.text) (t := p.text) (by simp only [List.length_append] at *; omega)
        have hqlt := lt_get e2
        have hst : stO 1 (H ++ [AObj.cells p.row t_api_Piece]) Q (l.length * 3 + 1) [.str (x.text ++ p.text)] (some (.cells (pcC (l ++ [x])) t_api_Piece)) = some ((H ++ [AObj.cells p.row t_api_Piece]).set Q (AObj.cells (pcC (putF (l ++ [x]) p)) t_api_Piece)) := by
          rw [stO_cells (sz := 1) rfl (by rw [pcC_len]; simp; omega) rfl, st_last, hpf]
        have := h.turned (H2 := (H ++ [AObj.cells p.row t_api_Piece]).set Q (AObj.cells (pcC (putF (l ++ [x]) p)) t_api_Piece)) (cur := putF (l ++ [x]) p) (w := v) (by simp) (fun i y hi hne hiP => by
          rw [List.getElem?_set_ne (fun e => hne Q (by rw [e1]; simp) e.symm)]; exact hp_getl hi) (by rw [List.getElem?_set_ne (ne_T e2 h.par t_ne2)]; exact hp1 _) (.inr ⟨by rw [hpf]; simp, Q, by rw [hpf, e1]; simp, List.getElem?_set_self (by simp; omega)⟩) h.ab h.pr
        refine ⟨_, ?_, ⟨P, q, vs, v, ta, ov, this.1⟩, this.2⟩
        rw [run_c M hC.docs_cutter_put rfl (c := c_docs_cutter_put) rfl, c_docs_cutter_put]
        simp (maxSteps := 3000000) (maxDischargeDepth := 6) +contextual -implicitDefEqProofs only [amC M, ↓amD, Nat.reduceBEq, Nat.reduceAdd, env, fargs, q_docs_cutter_put, amG, AV.cell, Nat.reduceMul, Nat.reduceLeDiff, rnc, hc1, hp1, gx, cl5, hia, hld, hw1, hln, hk, hx, d1, hw2, hiq, hQ1, q1, q2, ha, hst, qPiece, List.getElem?_cons_zero, r1, dyK, amZ, Nat.add_zero]
end Go.Am
end

section
set_option linter.unusedSimpArgs false
set_option linter.unusedVariables false
set_option maxRecDepth 100000
set_option maxHeartbeats 4000000
namespace Go.Am
open Go.RowKit
attribute [local congr] dsel_congr sel_c1 slc_cong gsel_congr go_congr aft_congr aftD_congr condR_congr backR_congr inR_congr at2_congr
variable {E : REnv} (M : Mach cdec E)

/-! A cutter turns, and takes tags and units -/
theorem putF_ne {l : List Piece} {p : Piece} (h : (p.kind == 1) = false) : putF l p = l ++ [p] := by
  unfold putF
  cases hl : l.getLast? with
  | none => simp at hl; subst hl; rfl
  | some x => dsimp only; rw [h]; rfl
def clsP (s : Str) : Piece := ⟨3, s, true⟩
def opnP (s : Str) : Piece := ⟨2, s, true⟩
theorem op_get {H : List AObj} {v : AV} {l : List Str} (h : OpV H v l) {i : Nat} {s : Str} (hi : l[i]? = some s) : ∃ O cs, rias 1 v (.int .i64 (i : Int)) = some (.ptr O i) ∧ H[O]? = some (.cells cs t_string) ∧ rload none cs i = some (.str s) := by
  rcases h with ⟨rfl, rfl⟩ | ⟨O, junk, rfl, h2⟩
  · simp at hi
  · have hlt := (List.getElem?_eq_some_iff.1 hi).1
    refine ⟨O, _, ias_par hlt _, h2, ?_⟩
    simp only [rload]
    rw [List.getElem?_append_left (by rw [strC_len]; exact hlt), strC, List.getElem?_map, hi]; rfl
theorem len_op {H G : List AObj} {v : AV} {l : List Str} (h : OpV H v l) : rlen G .sl v = some (.int .i64 (l.length : Int)) := by
  rcases h with ⟨rfl, rfl⟩ | ⟨O, junk, rfl, _⟩ <;> rfl
theorem tn0 (hC : CutE E) {R : Nat → Prop} {c : Nat} {H0 : List AObj} : ∀ (n : Nat) (H : List AObj) (S : CSt), CutV R c H S → n ≤ S.opn.length → S.opn.length ≤ 100000 → (∀ s ∈ S.opn, s.length ≤ 1000000) → S.done.length ≤ 1000000 → S.cur.length + n ≤ 1000000 → (∀ x ∈ S.cur, x.text.length ≤ 1000000) →
    ∃ H', (∀ (k : List Fra) (He : List AObj), M.go a_docs_cutter_turn H0 (.c l_docs_cutter_turn_0 :: .lp ⟨(some [0, 2]), [], false⟩ l_docs_cutter_turn_0 He :: .blk 0 :: .c (.lv [0]) :: k) (kv [(0, .ptr c 0), (2, .int .i64 ((n : Int) - 1))]) H = M.go a_docs_cutter_turn H0 k (kv [(0, .ptr c 0)]) H') ∧ CutV R c H' { S with cur := S.cur ++ ((S.opn.take n).reverse.map clsP) } ∧ Frm R H H'
  | 0, H, S, hS, hn, ho, hol, hd, hcu, hct => by
    refine ⟨H, fun k He => ?_, by simpa using hS, Frm.refl _ _⟩
    have h0 : decide ((0 : Int) ≤ ((0 : Nat) : Int) - 1) = false := rfl
    rw [go_head M l_docs_cutter_turn_0.eq_1]
    simp (maxSteps := 3000000) (maxDischargeDepth := 6) +contextual -implicitDefEqProofs only [amC M, ↓amD, Nat.reduceBEq, Nat.reduceAdd, env, fargs, q_docs_cutter_turn, h0]
  | n + 1, H, S, hS, hn, ho, hol, hd, hcu, hct => by
    have hlt : n < S.opn.length := by omega
    have hx : S.opn[n]? = some S.opn[n] := List.getElem?_eq_getElem hlt
    have hm := List.getElem_mem hlt
    obtain ⟨H1, p1, p2, p3, p4⟩ := run_put M hC hS hd (by omega) hct (p := clsP S.opn[n]) (hol _ hm)
    rw [putF_ne rfl] at p2
    obtain ⟨H2, i1, i2, i3⟩ := tn0 hC (H0 := H0) n H1 _ p2 (by dsimp only; omega) ho hol hd (by simp; omega) (fun x hx => by
      rcases List.mem_append.1 hx with hx | hx
      · exact hct x hx
      · rw [List.mem_singleton] at hx; subst hx; exact hol _ hm)
    refine ⟨H2, fun k He => ?_, ?_, p3.trans i3⟩
    · rw [← i1 k H1]
      obtain ⟨P, q, vs, v, ta, ov, h⟩ := hS
      obtain ⟨O, cs, o1, o2, o3⟩ := op_get h.op hx
      have hc := h.cell
      have e1 : ((n + 1 : Nat) : Int) - 1 = (n : Int) := by omega
      have h0 : decide ((0 : Int) ≤ (n : Int)) = true := decide_eq_true (by omega)
      have hw1 : IntKind.i64.wrap ((n : Int) - 1) = (n : Int) - 1 := wrap_i64 (by omega) (by omega)
      have hbd : M.run f_docs_cutter_put [.ptr c 0, .agg [.int .u8 3, .str S.opn[n], .bool true]] H = some (.ret (.tuple []), H1) := p1
      rw [e1]
      rw [go_head M l_docs_cutter_turn_0.eq_1]
      simp (maxSteps := 3000000) (maxDischargeDepth := 6) +contextual -implicitDefEqProofs only [amC M, ↓amD, Nat.reduceBEq, Nat.reduceAdd, env, fargs, q_docs_cutter_turn, amG, AV.cell, Nat.reduceMul, Nat.reduceLeDiff, rnc, h0, hw1, hc, cl5, o1, o2, o3, hbd]
    · have e : (S.opn.take (n + 1)).reverse.map clsP = clsP S.opn[n] :: (S.opn.take n).reverse.map clsP := by rw [List.take_add_one, hx]; rw [Option.toList_some, List.reverse_append, List.map_append]; rfl
      rw [e]
      simpa using i2
theorem tn1 (hC : CutE E) {R : Nat → Prop} {c : Nat} {H0 : List AObj} {ov : AV} : ∀ (n i : Nat) (H : List AObj) (S : CSt), CutV R c H S → OpV H ov S.opn → i + n = S.opn.length → S.opn.length ≤ 100000 → (∀ s ∈ S.opn, s.length ≤ 1000000) → S.done.length ≤ 1000000 → S.cur.length + n ≤ 1000000 → (∀ x ∈ S.cur, x.text.length ≤ 1000000) →
    ∃ H', (∀ (k : List Fra) (He : List AObj), M.go a_docs_cutter_turn H0 (.c l_docs_cutter_turn_1 :: .lp ⟨(some [0, 37, 38, 39]), [], false⟩ l_docs_cutter_turn_1 He :: .blk 2 :: .c (.lv [0]) :: k) (kv [(0, .ptr c 0), (37, ov), (38, .int .i64 S.opn.length), (39, .int .i64 i)]) H = M.go a_docs_cutter_turn H0 k (kv [(0, .ptr c 0)]) H') ∧ CutV R c H' { S with cur := S.cur ++ ((S.opn.drop i).map opnP) } ∧ Frm R H H'
  | 0, i, H, S, hS, ho, hn, hol, hot, hd, hcu, hct => by
    have e : i = S.opn.length := by omega
    subst e
    refine ⟨H, fun k He => ?_, by rw [List.drop_length]; simpa using hS, Frm.refl _ _⟩
    rw [go_head M l_docs_cutter_turn_1.eq_1]
    simp (maxSteps := 3000000) (maxDischargeDepth := 6) +contextual -implicitDefEqProofs only [amC M, ↓amD, Nat.reduceBEq, Nat.reduceAdd, env, fargs, q_docs_cutter_turn, Nat.lt_irrefl]
  | n + 1, i, H, S, hS, ho, hn, hol, hot, hd, hcu, hct => by
    have hlt : i < S.opn.length := by omega
    have hx : S.opn[i]? = some S.opn[i] := List.getElem?_eq_getElem hlt
    have hm := List.getElem_mem hlt
    obtain ⟨H1, p1, p2, p3, p4⟩ := run_put M hC hS hd (by omega) hct (p := opnP S.opn[i]) (hot _ hm)
    rw [putF_ne rfl] at p2
    obtain ⟨H2, i1, i2, i3⟩ := tn1 hC (H0 := H0) n (i + 1) H1 _ p2 (ho.stay p4) (by dsimp only; omega) hol hot hd (by simp; omega) (fun x hx => by
      rcases List.mem_append.1 hx with hx | hx
      · exact hct x hx
      · rw [List.mem_singleton] at hx; subst hx; exact hot _ hm)
    refine ⟨H2, fun k He => ?_, ?_, p3.trans i3⟩
    · rw [← i1 k H1]
      obtain ⟨O, cs, o1, o2, o3⟩ := op_get ho hx
      have hw1 := wrap_s (n := S.opn.length) hlt (by simp only [maxL]; omega)
      have hbd : M.run f_docs_cutter_put [.ptr c 0, .agg [.int .u8 2, .str S.opn[i], .bool true]] H = some (.ret (.tuple []), H1) := p1
      rw [go_head M l_docs_cutter_turn_1.eq_1]
      simp (maxSteps := 3000000) (maxDischargeDepth := 6) +contextual -implicitDefEqProofs only [amC M, ↓amD, Nat.reduceBEq, Nat.reduceAdd, env, fargs, q_docs_cutter_turn, amG, AV.cell, Nat.reduceMul, Nat.reduceLeDiff, rnc, hlt, hw1, o1, o2, o3, hbd]
    · rw [List.drop_eq_getElem_cons hlt, List.map_cons]
      simpa using i2
theorem ap_par {G : List AObj} {P R m : Nat} {vs : List AV} {v : AV} {T : TypeId} (hvs : vs.length = m) (hv : v.cell = true) (hP : G[P]? = some (.cells (vs ++ [v]) t_sl_api_Piece)) (hR : G[R]? = some (.cells [.slice .nil 3 []] T)) (hm : m ≤ 1000000) :
    rap true G t_sl_api_Piece 1 24 false (.rslice P 0 (m + 1) 1 true) (.rslice R 0 1 1 true) = some (.rslice G.length 0 (m + 1 + 1) 1 true, G.set P .dead ++ [.cells (vs ++ [v] ++ [.slice .nil 3 []]) t_sl_api_Piece]) := by
  have hs : rsrc G 1 false (.rslice R 0 1 1 true) = some [[.slice .nil 3 []]] := by
    simp only [rsrc, hR]
    rw [if_pos ⟨trivial, by simp⟩]; rfl
  simp only [rap, rappM, hs, hP]
  rw [if_pos (show rowsOk 1 [[AV.slice .nil 3 []]] = true from rfl), if_pos ⟨trivial, trivial, by simp; omega, by simp; omega, by simp; omega⟩, List.take_of_length_le (by simp; omega)]
  rfl
theorem CutW.upd {R : Nat → Prop} {c : Nat} {H : List AObj} {S : CSt} {P q : Nat} {vs : List AV} {v : AV} {ta : Tag} {ov : AV} (h : CutW R c H S P q vs v ta ov) (pos : List Int) (place : Nat) (due : Bool) (opn : List Str) (ta' : Tag) (ov' : AV) (ho : OpV H ov' opn) (ha : free R ov') (ht : ta' = .any ∨ ta' = .some ∨ pos = []) :
    CutW R c (H.set c (.cells [.rslice P 0 (S.done.length + 1) 1 true, .slice ta' 1 (pos.map intRow), .int .i64 place, .bool due, ov'] t_docs_cutter)) { S with pos := pos, place := place, due := due, opn := opn } P q vs v ta' ov' ∧ Frm R H (H.set c (.cells [.rslice P 0 (S.done.length + 1) 1 true, .slice ta' 1 (pos.map intRow), .int .i64 place, .bool due, ov'] t_docs_cutter)) ∧
      StK H (H.set c (.cells [.rslice P 0 (S.done.length + 1) 1 true, .slice ta' 1 (pos.map intRow), .int .i64 place, .bool due, ov'] t_docs_cutter)) :=
  ⟨⟨h.hn, h.hP, fun i hi => by simpa using h.rl i hi, List.getElem?_set_self (lt_get h.cell), get_set_T h.cell t_ne6 h.par, h.len, fun i w l hi hl => ⟨(h.dn i w l hi hl).1.stay fun Q cs _ hQ => get_set_T h.cell t_ne1 hQ, (h.dn i w l hi hl).2⟩, h.cr.stay fun Q cs _ hQ => get_set_T h.cell t_ne1 hQ, h.ab, h.pr, by simpa using h.ql, ho.stay fun O cs hO => get_set_T h.cell t_ne5 hO, ha, ht⟩, Frm.set _ h.hn h.cell, fun O cs hO => get_set_T h.cell t_ne5 hO⟩
def turnF (S : CSt) : CSt := { S with done := S.done ++ [S.cur ++ S.opn.reverse.map clsP], cur := S.opn.map opnP, due := false }
theorem run_turn (hC : CutE E) {R : Nat → Prop} {c : Nat} {H : List AObj} {S : CSt} (hS : CutV R c H S) (ho : S.opn.length ≤ 100000) (hot : ∀ s ∈ S.opn, s.length ≤ 1000000) (hd : S.done.length ≤ 100000) (hcu : S.cur.length ≤ 100000) (hct : ∀ x ∈ S.cur, x.text.length ≤ 1000000) :
    ∃ H', M.run f_docs_cutter_turn [.ptr c 0] H = some (.ret (.tuple []), H') ∧ CutV R c H' (turnF S) ∧ Frm R H H' := by
  obtain ⟨H1, e1, s1, f1⟩ := tn0 M hC (R := R) (c := c) (H0 := H) S.opn.length H S hS (Nat.le_refl _) ho hot (by omega) (by omega) hct
  obtain ⟨P0, q0, vs0, v0, ta0, ov0, h0⟩ := hS
  obtain ⟨P, q, vs, v, ta, ov, h⟩ := s1
  rw [List.take_length] at h
  have hvs := h.len
  dsimp only at hvs
  have hcl := lt_get h.cell
  have hpl := lt_get h.par
  have hc1 : ∀ X, (H1 ++ X)[c]? = _ := fun X => hp_getl h.cell
  have hr1 : ∀ x : AObj, (H1 ++ [x])[H1.length]? = some x := fun x => hp_get0 H1 [x]
  have app := fun X => ap_par (G := H1 ++ [AObj.cells [.slice .nil 3 []] X]) (P := P) (R := H1.length) (m := S.done.length) hvs (cell_PcV h.cr).1 (hp_getl h.par) (hr1 _) (by omega)
  -- the world behind the append
  obtain ⟨G, hG⟩ : ∃ G, G = (H1 ++ [AObj.cells [.slice .nil 3 []] t_sl_api_Piece]).set P .dead ++ [AObj.cells (vs ++ [v] ++ [.slice .nil 3 []]) t_sl_api_Piece] := ⟨_, rfl⟩
  have gL : G.length = H1.length + 2 := by rw [hG]; simp
  have gK : ∀ (i : Nat) (cs : List AV) (T : TypeId), H1[i]? = some (.cells cs T) → T ≠ t_sl_api_Piece → G[i]? = some (.cells cs T) := fun i cs T hi hT => by
    have hlt := lt_get hi
    rw [hG, List.getElem?_append_left (by simp; omega), List.getElem?_set_ne (ne_T h.par hi hT.symm)]; exact hp_getl hi
  have gP : G[H1.length + 1]? = some (.cells (vs ++ [v] ++ [.slice .nil 3 []]) t_sl_api_Piece) := by
    rw [hG, List.getElem?_append_right (by simp)]; simp
  have gF : Frm R H1 G := ⟨by omega, fun i hi => by
    have hlt := h.rl i hi
    rw [hG, List.getElem?_append_left (by simp; omega), List.getElem?_set_ne (fun e : P = i => h.hP (by rw [e]; exact hi)), List.getElem?_append_left hlt], fun i s pos hi => by
    have hlt := (List.getElem?_eq_some_iff.1 hi).1
    rw [hG, List.getElem?_append_left (by simp; omega), List.getElem?_set_ne (fun e => by subst e; rw [h.par] at hi; cases hi), List.getElem?_append_left hlt]; exact hi⟩
  have gc := gK c _ _ h.cell t_ne6.symm
  have app1 := app t_sl_api_Piece
  rw [← hG] at app1
  simp only [List.length_append, List.length_cons, List.length_nil, Nat.zero_add] at app1
  -- the state
  have w2 : CutW R c (G.set c (.cells [.rslice (H1.length + 1) 0 (S.done.length + 1 + 1) 1 true, .slice ta 1 (S.pos.map intRow), .int .i64 S.place, .bool S.due, ov] t_docs_cutter)) { S with done := S.done ++ [S.cur ++ S.opn.reverse.map clsP], cur := [] } (H1.length + 1) H1.length (vs ++ [v]) (.slice .nil 3 []) ta ov := by
    have gp : ∀ (w : AV) (l : List Piece), PcV H1 w l → PcV (G.set c (.cells [.rslice (H1.length + 1) 0 (S.done.length + 1 + 1) 1 true, .slice ta 1 (S.pos.map intRow), .int .i64 S.place, .bool S.due, ov] t_docs_cutter)) w l := fun w l hw => hw.stay fun Q cs _ hQ => get_set_T gc t_ne1 (gK Q _ _ hQ t_ne2)
    refine ⟨h.hn, fun hR => by have := h.rl _ hR; omega, fun i hi => by have := h.rl i hi; simp; omega, by rw [List.getElem?_set_self (by omega)]; simp, get_set_T gc t_ne6 gP, by simp [hvs], fun i w l hi hl => ?_, .inl ⟨rfl, rfl⟩, fun Q o n e r eq => (by cases eq), fun Q o n e r eq => (by cases eq), by simp; omega, h.op.stay fun O cs hO => get_set_T gc t_ne5 (gK O _ _ hO t_ne4), h.oa, h.tg⟩
    by_cases hlt : i < vs.length
    · rw [List.getElem?_append_left hlt] at hi
      rw [List.getElem?_append_left (by omega)] at hl
      obtain ⟨d1, d2, d3⟩ := h.dn i w l hi hl
      exact ⟨gp w l d1, fun Q o n e r eq => Nat.lt_of_lt_of_le (d2 Q o n e r eq) h.ql, d3⟩
    · have hi2 : i = vs.length := by
        have := (List.getElem?_eq_some_iff.1 hi).1
        simp at this; omega
      subst hi2
      rw [List.getElem?_append_right (Nat.le_refl _), Nat.sub_self, List.getElem?_cons_zero] at hi
      rw [List.getElem?_append_right (by omega), show vs.length - S.done.length = 0 by omega, List.getElem?_cons_zero] at hl
      cases hi; cases hl
      refine ⟨gp v _ h.cr, fun Q o n e r eq => ?_, h.pr⟩
      rcases h.cr with ⟨_, hv⟩ | ⟨_, Q', hv, hQ⟩
      · rw [hv] at eq; cases eq
      · rw [hv] at eq; cases eq; exact lt_get hQ
  have f2 : Frm R G (G.set c (.cells [.rslice (H1.length + 1) 0 (S.done.length + 1 + 1) 1 true, .slice ta 1 (S.pos.map intRow), .int .i64 S.place, .bool S.due, ov] t_docs_cutter)) := Frm.set _ h.hn gc
  obtain ⟨G2, hG2⟩ : ∃ G2, G2 = G.set c (.cells [.rslice (H1.length + 1) 0 (S.done.length + 1 + 1) 1 true, .slice ta 1 (S.pos.map intRow), .int .i64 S.place, .bool S.due, ov] t_docs_cutter) := ⟨_, rfl⟩
  rw [← hG2] at w2 f2
  obtain ⟨H3, e3, s3, f3⟩ := tn1 M hC (R := R) (c := c) (H0 := H) (ov := ov) S.opn.length 0 G2 _ ⟨_, _, _, _, _, _, w2⟩ w2.op (by dsimp only; omega) ho hot (by simp; omega) (by simp; omega) (fun x hx => by cases hx)
  obtain ⟨P4, q4, vs4, v4, ta4, ov4, h4⟩ := s3
  have u4 := h4.upd S.pos S.place false S.opn ta4 ov4 h4.op h4.oa h4.tg
  refine ⟨_, ?_, ⟨P4, q4, vs4, v4, ta4, ov4, ?_⟩, (((f1.trans gF).trans f2).trans f3).trans u4.2.1⟩
  · have hln0 := fun G => len_op (G := G) h0.op
    have hln2 := fun G => len_op (G := G) w2.op
    dsimp only at hln2
    have hw1 : IntKind.i64.wrap ((S.opn.length : Int) - 1) = (S.opn.length : Int) - 1 := wrap_i64 (by omega) (by omega)
    have hc0 := h0.cell
    have hc2 := w2.cell
    have hc4 := h4.cell
    have hc10 := h.cell
    have r1 : ∀ H, runit (some H) = some (undefA, H) := fun _ => rfl
    have st5 : ∀ (a b c0 d e x : AV), setRow [a, b, c0, d, e] 0 [x] = [x, b, c0, d, e] ∧ setRow [a, b, c0, d, e] 3 [x] = [a, b, c0, x, e] := fun _ _ _ _ _ _ => ⟨rfl, rfl⟩
    have so1 := stO_cells (sz := 1) (H := G) (id := c) (off := 0) (cs := [.rslice (H1.length + 1) 0 (S.done.length + 1 + 1) 1 true]) (T := t_docs_cutter) (old := [.rslice P 0 (S.done.length + 1) 1 true, .slice ta 1 (S.pos.map intRow), .int .i64 S.place, .bool S.due, ov]) rfl (by simp) rfl
    have so2 := stO_cells (sz := 1) (H := H3) (id := c) (off := 3) (cs := [.bool false]) (T := t_docs_cutter) (old := [.rslice P4 0 ((S.done ++ [S.cur ++ S.opn.reverse.map clsP]).length + 1) 1 true, .slice ta4 1 (S.pos.map intRow), .int .i64 S.place, .bool S.due, ov4]) rfl (by simp) rfl
    simp only [(st5 _ _ _ _ _ _).1, (st5 _ _ _ _ _ _).2, ← hG2] at so1 so2
    simp only [kv_cons, kv_nil, Int.ofNat_zero] at e1 e3
    dsimp only at hc1 hc10 gc hc2 hc4 e3
    rw [run_c M hC.docs_cutter_turn rfl (c := c_docs_cutter_turn) rfl, c_docs_cutter_turn]
    simp (maxSteps := 3000000) (maxDischargeDepth := 6) +contextual -implicitDefEqProofs only [amC M, ↓amD, Nat.reduceBEq, Nat.reduceAdd, env, fargs, q_docs_cutter_turn, amG, AV.cell, Nat.reduceMul, Nat.reduceLeDiff, rnc, hc0, cl5, hln0, hw1, e1, hc10, hc1, gc, app1, so1, hG2.symm, hc2, hln2, e3, hc4, so2, r1]
  · have := u4.1
    simpa [turnF] using this
end Go.Am
end

section
set_option linter.unusedSimpArgs false
set_option linter.unusedVariables false
set_option maxRecDepth 100000
set_option maxHeartbeats 4000000
namespace Go.Am
open Go.RowKit
attribute [local congr] dsel_congr sel_c1 slc_cong gsel_congr go_congr aft_congr aftD_congr condR_congr backR_congr inR_congr at2_congr
variable {E : REnv} (M : Mach cdec E)

/-! A cutter takes tags and units -/
theorem CutW.app {R : Nat → Prop} {c : Nat} {H : List AObj} {S : CSt} {P q : Nat} {vs : List AV} {v : AV} {ta : Tag} {ov : AV} (h : CutW R c H S P q vs v ta ov) (X : List AObj) : CutW R c (H ++ X) S P q vs v ta ov :=
  ⟨h.hn, h.hP, fun i hi => by have := h.rl i hi; simp; omega, hp_getl h.cell, hp_getl h.par, h.len, fun i w l hi hl => ⟨(h.dn i w l hi hl).1.stay fun Q cs _ hQ => hp_getl hQ, (h.dn i w l hi hl).2⟩, h.cr.stay fun Q cs _ hQ => hp_getl hQ, h.ab, h.pr, by have := h.ql; simp; omega, h.op.stay fun O cs hO => hp_getl hO, h.oa, h.tg⟩
theorem CutV.app {R : Nat → Prop} {c : Nat} {H : List AObj} {S : CSt} (h : CutV R c H S) (X : List AObj) : CutV R c (H ++ X) S := by
  obtain ⟨P, q, vs, v, ta, ov, h⟩ := h
  exact ⟨P, q, vs, v, ta, ov, h.app X⟩
theorem CutV.le {R : Nat → Prop} {c : Nat} {H : List AObj} {S : CSt} (h : CutV R c H S) : c < H.length ∧ ∀ i, R i → i < H.length := by
  obtain ⟨P, q, vs, v, ta, ov, h⟩ := h
  exact ⟨lt_get h.cell, h.rl⟩
theorem ap_op {R : Nat → Prop} {G : List AObj} {v : AV} {l : List Str} (h : OpV G v l) (ha : free R v) (hn : ∀ i, R i → i < G.length) (hl : l.length ≤ 1000000) (s : Str) :
    ∃ v' G', rap true G t_string 1 16 false v (.slice .full 1 [[.str s]]) = some (v', G') ∧ OpV G' v' (l ++ [s]) ∧ free R v' ∧ v'.cell = true ∧ acells v' = some [v'] ∧ Frm R G G' ∧ ∀ (i : Nat) (cs : List AV) (T : TypeId), G[i]? = some (AObj.cells cs T) → T ≠ t_string → G'[i]? = some (AObj.cells cs T) := by
  rcases h with ⟨rfl, rfl⟩ | ⟨O, junk, rfl, hg⟩
  · refine ⟨.rslice G.length 0 1 1 true, G ++ [.cells [.str s] t_string], ?_, .inr ⟨G.length, [], rfl, by rw [hp_get0]; rfl⟩, fun Q o n e r eq hR => (by cases eq; have := hn _ hR; omega), rfl, rfl, Frm.app _ _ hn, fun i cs T hi _ => hp_getl hi⟩
    simp only [rap, rappM, rsrc, or_true, if_true, rowsOk_str]
    rw [if_pos (by simp)]
    rfl
  · have hlt := lt_get hg
    have hO := ha O _ _ _ _ rfl
    have hlen : l.length * 1 ≤ (strC l ++ junk).length := by rw [List.length_append, strC_len]; omega
    refine ⟨.rslice G.length 0 (l.length + 1) 1 true, G.set O .dead ++ [.cells (strC (l ++ [s])) t_string], ?_, .inr ⟨G.length, [], by simp, ?_⟩, fun Q o n e r eq hR => (by cases eq; have := hn _ hR; omega), rfl, rfl, ⟨by simp, fun i hi => ?_, fun i s pos hi => ?_⟩, fun i cs T hi hT => ?_⟩
    · simp only [rap, rappM, rsrc, or_true, if_true, rowsOk_str, hg]
      rw [if_pos ⟨trivial, trivial, hlen, by simp; omega, by simp; omega⟩]
      simp only [Nat.mul_one]
      rw [List.take_left' (by rw [strC_len]), strC_app]
      rfl
    · rw [List.append_nil, show G.length = (G.set O .dead).length by simp, hp_get0]; rfl
    · have := hn i hi
      rw [List.getElem?_append_left (by simp; omega), List.getElem?_set_ne (fun e : O = i => hO (by rw [e]; exact hi))]
    · have := (List.getElem?_eq_some_iff.1 hi).1
      rw [List.getElem?_append_left (by simp; omega), List.getElem?_set_ne (fun e => by subst e; rw [hg] at hi; cases hi)]; exact hi
    · have := lt_get hi
      rw [List.getElem?_append_left (by simp; omega), List.getElem?_set_ne (ne_T hg hi hT.symm)]; exact hi
theorem pop_op {G : List AObj} {v : AV} {l : List Str} {s : Str} (h : OpV G v (l ++ [s])) {R : Nat → Prop} (ha : free R v) : ∃ v', rsll 1 v none (some (.int .i64 (l.length : Int))) none = some v' ∧ OpV G v' l ∧ free R v' ∧ v'.cell = true ∧ acells v' = some [v'] := by
  rcases h with ⟨h, _⟩ | ⟨O, junk, rfl, hg⟩
  · simp at h
  · refine ⟨.rslice O 0 l.length 1 true, ?_, .inr ⟨O, .str s :: junk, rfl, by rw [hg, strC_app, List.append_assoc]; rfl⟩, fun Q o n e r eq => (by cases eq; exact ha O _ _ _ _ rfl), rfl, rfl⟩
    have h1 : abound (some (.int .i64 (l.length : Int))) (l ++ [s]).length = some l.length := by simp [abound]
    simp only [rsll, h1, (show abound none 0 = some 0 from rfl)]
    cases l with
    | nil => rfl
    | cons y t => rw [if_pos (by simp)]; simp
def due1 (S : CSt) (p : Piece) : CSt := sel (S.due && !(p.kind == 3)) (turnF S) S
def opnF (l : List Str) (p : Piece) : List Str := sel (p.kind == 2) (l ++ [p.text]) (sel (p.kind == 3) l.dropLast l)
def tagF (S : CSt) (p : Piece) : CSt := { due1 S p with opn := opnF (due1 S p).opn p, cur := putF (due1 S p).cur p }
structure CBd (S : CSt) : Prop where
  opn : S.opn.length ≤ 100000
  opt : ∀ s ∈ S.opn, s.length ≤ 1000000
  done : S.done.length ≤ 100000
  cur : S.cur.length ≤ 100000
  txt : ∀ x ∈ S.cur, x.text.length ≤ 1000000
theorem due1_opn (S : CSt) (p : Piece) : (due1 S p).opn = S.opn := by unfold due1; cases S.due && !(p.kind == 3) <;> rfl
theorem due1_bd {S : CSt} (h : CBd S) (p : Piece) : (due1 S p).done.length ≤ 1000000 ∧ (due1 S p).cur.length ≤ 1000000 ∧ ∀ x ∈ (due1 S p).cur, x.text.length ≤ 1000000 := by
  have h1 := h.opn; have h2 := h.done; have h3 := h.cur
  unfold due1
  cases S.due && !(p.kind == 3) with
  | false => exact ⟨by rw [sel_false]; omega, by rw [sel_false]; omega, by rw [sel_false]; exact h.txt⟩
  | true =>
    rw [sel_true]
    refine ⟨by simp [turnF]; omega, by simp [turnF]; omega, fun x hx => ?_⟩
    obtain ⟨s, hs, rfl⟩ := List.mem_map.1 (show x ∈ S.opn.map opnP from hx)
    exact h.opt s hs
def R1 (R : Nat → Prop) (k : Nat) : Nat → Prop := fun i => R i ∨ i = k
theorem CutV.more {R : Nat → Prop} {c : Nat} {H : List AObj} {S : CSt} (h : CutV R c H S) (x : AObj) : CutV (R1 R H.length) c (H ++ [x]) S := by
  obtain ⟨P, q, vs, v, ta, ov, h⟩ := h
  have h2 := h.app [x]
  have fr : ∀ (w : AV) (l : List Piece), PcV H w l → free R w → free (R1 R H.length) w := fun w l hp hf Q o n e r eq hR => by
    rcases hR with hR | hR
    · exact hf Q o n e r eq hR
    · rcases hp with ⟨_, hv⟩ | ⟨_, Q', hv, hQ⟩
      · rw [hv] at eq; cases eq
      · rw [hv] at eq; cases eq; have := lt_get hQ; omega
  refine ⟨P, q, vs, v, ta, ov, ⟨fun hR => ?_, fun hR => ?_, fun i hi => ?_, h2.cell, h2.par, h2.len, fun i w l hi hl => ⟨(h2.dn i w l hi hl).1, (h2.dn i w l hi hl).2.1, fr w l (h.dn i w l hi hl).1 (h.dn i w l hi hl).2.2⟩, h2.cr, h2.ab, fr v _ h.cr h.pr, h2.ql, h2.op, fun Q o n e r eq hR => ?_, h2.tg⟩⟩
  · rcases hR with hR | hR
    · exact h.hn hR
    · have := lt_get h.cell; omega
  · rcases hR with hR | hR
    · exact h.hP hR
    · have := lt_get h.par; omega
  · rcases hi with hi | hi
    · have := h.rl i hi; simp; omega
    · simp; omega
  · rcases hR with hR | hR
    · exact h.oa Q o n e r eq hR
    · rcases h.op with ⟨_, hv⟩ | ⟨O, junk, hv, hO⟩
      · rw [hv] at eq; cases eq
      · rw [hv] at eq; cases eq; have := lt_get hO; omega
theorem CutV.mono {R R' : Nat → Prop} {c : Nat} {H : List AObj} {S : CSt} (h : CutV R c H S) (hr : ∀ i, R' i → R i) : CutV R' c H S := by
  obtain ⟨P, q, vs, v, ta, ov, h⟩ := h
  exact ⟨P, q, vs, v, ta, ov, ⟨fun hR => h.hn (hr _ hR), fun hR => h.hP (hr _ hR), fun i hi => h.rl i (hr i hi), h.cell, h.par, h.len, fun i w l hi hl => ⟨(h.dn i w l hi hl).1, (h.dn i w l hi hl).2.1, fun Q o n e r eq hR => (h.dn i w l hi hl).2.2 Q o n e r eq (hr _ hR)⟩, h.cr, h.ab, fun Q o n e r eq hR => h.pr Q o n e r eq (hr _ hR), h.ql, h.op, fun Q o n e r eq hR => h.oa Q o n e r eq (hr _ hR), h.tg⟩⟩
theorem CutW.upo {R : Nat → Prop} {c : Nat} {H G : List AObj} {S : CSt} {P q : Nat} {vs : List AV} {v : AV} {ta : Tag} {ov : AV} (h : CutW R c H S P q vs v ta ov) (f : Frm R H G) (hT : ∀ (i : Nat) (cs : List AV) (T : TypeId), H[i]? = some (AObj.cells cs T) → T ≠ t_string → G[i]? = some (AObj.cells cs T)) (ov' : AV) (opn : List Str) (ho : OpV G ov' opn) (ha : free R ov') :
    CutW R c (G.set c (.cells [.rslice P 0 (S.done.length + 1) 1 true, .slice ta 1 (S.pos.map intRow), .int .i64 S.place, .bool S.due, ov'] t_docs_cutter)) { S with opn := opn } P q vs v ta ov' ∧ Frm R G (G.set c (.cells [.rslice P 0 (S.done.length + 1) 1 true, .slice ta 1 (S.pos.map intRow), .int .i64 S.place, .bool S.due, ov'] t_docs_cutter)) ∧ True := by
  have gc := hT c _ _ h.cell t_ne5.symm
  exact ⟨⟨h.hn, h.hP, fun i hi => by have := h.rl i hi; have := f.len; simp; omega, List.getElem?_set_self (lt_get gc), get_set_T gc t_ne6 (hT P _ _ h.par t_ne4.symm), h.len, fun i w l hi hl => ⟨(h.dn i w l hi hl).1.stay fun Q cs _ hQ => get_set_T gc t_ne1 (hT Q _ _ hQ t_ne3.symm), (h.dn i w l hi hl).2⟩, h.cr.stay fun Q cs _ hQ => get_set_T gc t_ne1 (hT Q _ _ hQ t_ne3.symm), h.ab, h.pr, by have := h.ql; have := f.len; simp; omega, ho.stay fun O cs hO => get_set_T gc t_ne5 hO, ha, h.tg⟩, Frm.set _ h.hn gc, trivial⟩
theorem due1_cut (hC : CutE E) {R : Nat → Prop} {c : Nat} {H : List AObj} {S : CSt} (hS : CutV R c H S) (hB : CBd S) :
    ∃ H', M.run f_docs_cutter_turn [.ptr c 0] H = some (.ret (.tuple []), H') ∧ CutV R c H' (turnF S) ∧ Frm R H H' := run_turn M hC hS (by have := hB.opn; omega) hB.opt hB.done hB.cur hB.txt
theorem ld_due {R : Nat → Prop} {c : Nat} {H : List AObj} {S : CSt} (h : CutV R c H S) : ∃ cs, H[c]? = some (.cells cs t_docs_cutter) ∧ rload none cs 3 = some (.bool S.due) := by
  obtain ⟨P, q, vs, v, ta, ov, h⟩ := h
  exact ⟨_, h.cell, rfl⟩
/-- The tags that are open are turned. -/
theorem run_tag (hC : CutE E) {R : Nat → Prop} {c : Nat} {H : List AObj} {S : CSt} (hS : CutV R c H S) (hB : CBd S) {p : Piece} (hp : p.text.length ≤ 1000000) (hop : (p.kind == 3) = true → S.opn ≠ []) :
    ∃ H', M.run f_docs_cutter_tag [.ptr c 0, .agg p.row] H = some (.ret (.tuple []), H') ∧ CutV R c H' (tagF S p) ∧ Frm R H H' := by
  have h23 : (p.kind == 3) = true → (p.kind == 2) = false := fun h => by rw [eq_of_beq h]; rfl
  obtain ⟨l1, l2⟩ := hS.le
  have h0 := hS.more (.cells p.row t_api_Piece)
  have f0 : Frm R H (H ++ [AObj.cells p.row t_api_Piece]) := Frm.app _ _ l2
  obtain ⟨b1, b2, b3⟩ := due1_bd hB p
  have hcR : ∀ i, R i → R1 R H.length i := fun i hi => .inl hi
  have r1 : ∀ H, runit (some H) = some (undefA, H) := fun _ => rfl
  have st5 : ∀ (a b c0 d e x : AV), setRow [a, b, c0, d, e] 4 [x] = [a, b, c0, d, x] := fun _ _ _ _ _ _ => rfl
  obtain ⟨cs0, g0, g0d⟩ := ld_due h0
  have hopn := due1_opn S p
  have hpo := hB.opn
  have gx := hp_get0 H [AObj.cells p.row t_api_Piece]
  rw [List.getElem?_cons_zero] at gx
  -- behind the cut
  obtain ⟨H1, c1, c2, c3⟩ : ∃ H1, CutV (R1 R H.length) c H1 (due1 S p) ∧ Frm (R1 R H.length) (H ++ [AObj.cells p.row t_api_Piece]) H1 ∧ sel (S.due && !(p.kind == 3)) (M.run f_docs_cutter_turn [.ptr c 0] (H ++ [AObj.cells p.row t_api_Piece]) = some (.ret (.tuple []), H1)) (H1 = H ++ [AObj.cells p.row t_api_Piece]) := by
    cases hd : S.due && !(p.kind == 3) with
    | false => exact ⟨_, by unfold due1; rw [hd]; exact h0, Frm.refl _ _, rfl⟩
    | true =>
      obtain ⟨H1, t1, t2, t3⟩ := due1_cut M hC h0 hB
      exact ⟨H1, by unfold due1; rw [hd]; exact t2, t3, t1⟩
  have hx1 : H1[H.length]? = some (.cells p.row t_api_Piece) := by rw [c2.low _ (.inr rfl), hp_get0]; rfl
  have e1 : (S.due && !(p.kind == 3)) = false → due1 S p = S := fun h => by unfold due1; rw [h]; rfl
  rw [show tagF S p = { due1 S p with opn := opnF (due1 S p).opn p, cur := putF (due1 S p).cur p } from rfl]
  generalize due1 S p = S1 at *
  -- the tags that are open
  obtain ⟨P, q, vs, v, ta, ov, h1⟩ := c1
  have hw1 : IntKind.i64.wrap ((S.opn.length : Int) - 1) = (S.opn.length : Int) - 1 := wrap_i64 (by omega) (by omega)
  have hcl := h1.cell
  have last : ∀ {H2 : List AObj} {S2 : CSt}, CutV (R1 R H.length) c H2 S2 → Frm (R1 R H.length) H1 H2 → S2.done = S1.done → S2.cur = S1.cur → ∃ H3, M.run f_docs_cutter_put [.ptr c 0, .agg p.row] H2 = some (.ret (.tuple []), H3) ∧ CutV R c H3 { S2 with cur := putF S2.cur p } ∧ Frm R H H3 ∧ H2[H.length]? = some (.cells p.row t_api_Piece) := fun {H2 S2} w f e1 e2 => by
    obtain ⟨H3, p1, p2, p3, _⟩ := run_put M hC w (by rw [e1]; exact b1) (by rw [e2]; exact b2) (by rw [e2]; exact b3) hp
    exact ⟨H3, p1, p2.mono hcR, ((f0.trans (c2.mono hcR)).trans (f.mono hcR)).trans (p3.mono hcR), by rw [f.low _ (.inr rfl)]; exact hx1⟩
  cases k2 : p.kind == 2 with
  | true =>
    have k3 : (p.kind == 3) = false := by rw [eq_of_beq k2]; rfl
    obtain ⟨ov', G, a1, a2, a3, a4, a5, a6, a7⟩ := ap_op h1.op h1.oa h1.rl (by rw [hopn]; omega) p.text
    have gc := a7 c _ _ h1.cell t_ne5.symm
    have so := stO_cells (sz := 1) (H := G) (id := c) (off := 4) (cs := [ov']) (T := t_docs_cutter) (old := [.rslice P 0 (S1.done.length + 1) 1 true, .slice ta 1 (S1.pos.map intRow), .int .i64 S1.place, .bool S1.due, ov]) rfl (by simp) (by simp [a4])
    simp only [st5] at so
    obtain ⟨u1, u2, _⟩ := CutW.upo (h := h1) a6 a7 ov' (S1.opn ++ [p.text]) a2 a3
    obtain ⟨H3, q1, q2, q3, q4⟩ := last ⟨P, q, vs, v, ta, ov', u1⟩ (a6.trans u2) rfl rfl
    refine ⟨H3, ?_, by simpa [opnF, k2, k3, sel_true, sel_false] using q2, q3⟩
    rw [run_c M hC.docs_cutter_tag rfl (c := c_docs_cutter_tag) rfl, c_docs_cutter_tag]
    cases hd : S.due with
    | true =>
      rw [hd, k3] at c3
      simp only [Bool.not_false, Bool.and_self, sel_true] at c3
      simp (maxSteps := 3000000) (maxDischargeDepth := 6) +contextual -implicitDefEqProofs only [amC M, ↓amD, Nat.reduceBEq, Nat.reduceAdd, env, fargs, q_docs_cutter_tag, amG, AV.cell, Nat.reduceMul, Nat.reduceLeDiff, rnc, gx, g0, g0d, hd, k2, k3, qPiece, c3, hx1, hcl, cl5, a1, gc, a5, so, q4, q1, r1]
    | false =>
      have hS1 := e1 (by rw [hd]; rfl)
      have hd1 : S1.due = false := by rw [hS1]; exact hd
      rw [hd] at c3
      simp only [Bool.false_and, sel_false] at c3
      subst c3
      rw [hd1] at hcl gc so q1 q4
      simp (maxSteps := 3000000) (maxDischargeDepth := 6) +contextual -implicitDefEqProofs only [amC M, ↓amD, Nat.reduceBEq, Nat.reduceAdd, env, fargs, q_docs_cutter_tag, amG, AV.cell, Nat.reduceMul, Nat.reduceLeDiff, rnc, gx, hd1, k2, k3, qPiece, hcl, cl5, a1, gc, a5, so, q4, q1, r1]
  | false =>
    cases k3 : p.kind == 3 with
    | true =>
      have hne := hop k3
      obtain ⟨l, s, hls⟩ : ∃ l s, S1.opn = l ++ [s] := by
        rcases List.eq_nil_or_concat S1.opn with h | ⟨l, s, h⟩
        · rw [hopn] at h; exact absurd h hne
        · exact ⟨l, s, by simpa using h⟩
      have hlen : S.opn.length = l.length + 1 := by rw [← hopn, hls]; simp
      have ho := h1.op
      rw [hls] at ho
      obtain ⟨ov', o1, o2, o3, o4, o5⟩ := pop_op ho h1.oa
      obtain ⟨u1, u2, _⟩ := h1.upd S1.pos S1.place S1.due l ta ov' o2 o3 h1.tg
      obtain ⟨H3, q1, q2, q3, q4⟩ := last ⟨P, q, vs, v, ta, ov', u1⟩ u2 rfl rfl
      have hl0 : rlen (H ++ [AObj.cells p.row t_api_Piece]) .sl ov = some (.int .i64 ((l.length + 1 : Nat) : Int)) := by have := len_op (G := H ++ [AObj.cells p.row t_api_Piece]) ho; simpa using this
      have hl1 : rlen H1 .sl ov = some (.int .i64 ((l.length + 1 : Nat) : Int)) := by have := len_op (G := H1) ho; simpa using this
      have hw2 : IntKind.i64.wrap (((l.length + 1 : Nat) : Int) - 1) = (l.length : Int) := by rw [wrap_i64 (by omega) (by omega)]; omega
      refine ⟨H3, ?_, by simpa [opnF, k2, k3, hls, sel_true, sel_false] using q2, q3⟩
      rw [k3] at c3
      simp only [Bool.not_true, Bool.and_false, sel_false] at c3
      subst c3
      rw [run_c M hC.docs_cutter_tag rfl (c := c_docs_cutter_tag) rfl, c_docs_cutter_tag]
      have so := stO_cells (sz := 1) (H := H ++ [AObj.cells p.row t_api_Piece]) (id := c) (off := 4) (cs := [ov']) (T := t_docs_cutter) (old := [.rslice P 0 (S1.done.length + 1) 1 true, .slice ta 1 (S1.pos.map intRow), .int .i64 S1.place, .bool S1.due, ov]) rfl (by simp) (by simp [o4])
      simp only [st5] at so
      cases hd1 : S1.due <;> (rw [hd1] at hcl so; try rw [hd1] at q1 q4) <;> simp (maxSteps := 3000000) (maxDischargeDepth := 6) +contextual -implicitDefEqProofs only [amC M, ↓amD, Nat.reduceBEq, Nat.reduceAdd, env, fargs, q_docs_cutter_tag, amG, AV.cell, Nat.reduceMul, Nat.reduceLeDiff, rnc, gx, hd1, k2, k3, qPiece, hcl, cl5, hl0, hw2, o1, o5, so, q4, q1, r1]
    | false =>
      obtain ⟨H3, q1, q2, q3, q4⟩ := last ⟨P, q, vs, v, ta, ov, h1⟩ (Frm.refl _ _) rfl rfl
      refine ⟨H3, ?_, by simpa [opnF, k2, k3, sel_true, sel_false] using q2, q3⟩
      rw [run_c M hC.docs_cutter_tag rfl (c := c_docs_cutter_tag) rfl, c_docs_cutter_tag]
      cases hd : S.due with
      | true =>
        rw [hd, k3] at c3
        simp only [Bool.not_false, Bool.and_self, sel_true] at c3
        simp (maxSteps := 3000000) (maxDischargeDepth := 6) +contextual -implicitDefEqProofs only [amC M, ↓amD, Nat.reduceBEq, Nat.reduceAdd, env, fargs, q_docs_cutter_tag, amG, AV.cell, Nat.reduceMul, Nat.reduceLeDiff, rnc, gx, g0, g0d, hd, k2, k3, qPiece, c3, hx1, q1, r1]
      | false =>
        rw [hd] at c3
        simp only [Bool.false_and, sel_false] at c3
        subst c3
        simp (maxSteps := 3000000) (maxDischargeDepth := 6) +contextual -implicitDefEqProofs only [amC M, ↓amD, Nat.reduceBEq, Nat.reduceAdd, env, fargs, q_docs_cutter_tag, amG, AV.cell, Nat.reduceMul, Nat.reduceLeDiff, rnc, gx, g0, g0d, hd, k2, k3, qPiece, q1, r1]
end Go.Am
end

section
set_option linter.unusedSimpArgs false
set_option linter.unusedVariables false
set_option maxRecDepth 100000
set_option maxHeartbeats 4000000
namespace Go.Am
open Go.RowKit
attribute [local congr] dsel_congr sel_c1 slc_cong gsel_congr go_congr aft_congr aftD_congr condR_congr backR_congr inR_congr at2_congr
variable {E : REnv} (M : Mach cdec E)

/-! A cutter takes units -/
def due2 (S : CSt) : CSt := sel S.due (turnF S) S
def hitF (l : List Int) (n : Nat) : Bool := match l with
  | [] => false
  | x :: _ => x == (n : Int)
def unitF (S : CSt) (p : Piece) : CSt :=
  let S1 := due2 S
  let h := hitF S1.pos (S1.place + 1)
  { S1 with cur := putF S1.cur p, place := S1.place + 1, pos := sel h S1.pos.tail S1.pos, due := sel h true S1.due }
theorem due2_bd {S : CSt} (h : CBd S) : (due2 S).done.length ≤ 1000000 ∧ (due2 S).cur.length ≤ 1000000 ∧ ∀ x ∈ (due2 S).cur, x.text.length ≤ 1000000 := by
  have := due1_bd h ⟨0, [], false⟩
  unfold due1 at this
  rw [show (S.due && !((0 : Int) == 3)) = S.due by simp] at this
  exact this
theorem due2_pl (S : CSt) : (due2 S).place = S.place := by unfold due2; cases S.due <;> rfl
theorem run_unit (hC : CutE E) {R : Nat → Prop} {c : Nat} {H : List AObj} {S : CSt} (hS : CutV R c H S) (hB : CBd S) (hpl : S.place ≤ 1000000) {p : Piece} (hp : p.text.length ≤ 1000000) :
    ∃ H', M.run f_docs_cutter_unit [.ptr c 0, .agg p.row] H = some (.ret (.tuple []), H') ∧ CutV R c H' (unitF S p) ∧ Frm R H H' := by
  obtain ⟨l1, l2⟩ := hS.le
  have h0 := hS.more (.cells p.row t_api_Piece)
  have f0 : Frm R H (H ++ [AObj.cells p.row t_api_Piece]) := Frm.app _ _ l2
  obtain ⟨b1, b2, b3⟩ := due2_bd hB
  have hcR : ∀ i, R i → R1 R H.length i := fun i hi => .inl hi
  have r1 : ∀ H, runit (some H) = some (undefA, H) := fun _ => rfl
  obtain ⟨cs0, g0, g0d⟩ := ld_due h0
  have gx := hp_get0 H [AObj.cells p.row t_api_Piece]
  rw [List.getElem?_cons_zero] at gx
  obtain ⟨H1, c1, c2, c3⟩ : ∃ H1, CutV (R1 R H.length) c H1 (due2 S) ∧ Frm (R1 R H.length) (H ++ [AObj.cells p.row t_api_Piece]) H1 ∧ sel S.due (M.run f_docs_cutter_turn [.ptr c 0] (H ++ [AObj.cells p.row t_api_Piece]) = some (.ret (.tuple []), H1)) (H1 = H ++ [AObj.cells p.row t_api_Piece]) := by
    cases hd : S.due with
    | false => exact ⟨_, by unfold due2; rw [hd]; exact h0, Frm.refl _ _, rfl⟩
    | true =>
      obtain ⟨H1, t1, t2, t3⟩ := due1_cut M hC h0 hB
      exact ⟨H1, by unfold due2; rw [hd]; exact t2, t3, t1⟩
  have hx1 : H1[H.length]? = some (.cells p.row t_api_Piece) := by rw [c2.low _ (.inr rfl), hp_get0]; rfl
  have hpl1 := due2_pl S
  rw [show unitF S p = { due2 S with cur := putF (due2 S).cur p, place := (due2 S).place + 1, pos := sel (hitF (due2 S).pos ((due2 S).place + 1)) (due2 S).pos.tail (due2 S).pos, due := sel (hitF (due2 S).pos ((due2 S).place + 1)) true (due2 S).due } from rfl]
  generalize due2 S = S1 at *
  obtain ⟨H2, q1, q2, q3, _⟩ := run_put M hC c1 b1 b2 b3 hp
  have f2 : Frm R H H2 := (f0.trans (c2.mono hcR)).trans (q3.mono hcR)
  obtain ⟨P, q, vs, v, ta, ov, h2⟩ := q2.mono hcR
  have hw1 : IntKind.i64.wrap ((S1.place : Int) + 1) = ((S1.place + 1 : Nat) : Int) := by rw [wrap_i64 (by omega) (by omega)]; rfl
  have st5 : (∀ (a b c0 d e x : AV), setRow [a, b, c0, d, e] 2 [x] = [a, b, x, d, e]) ∧ (∀ (a b c0 d e x : AV), setRow [a, b, c0, d, e] 1 [x] = [a, x, c0, d, e]) ∧ (∀ (a b c0 d e x : AV), setRow [a, b, c0, d, e] 3 [x] = [a, b, c0, x, e]) := ⟨fun _ _ _ _ _ _ => rfl, fun _ _ _ _ _ _ => rfl, fun _ _ _ _ _ _ => rfl⟩
  obtain ⟨w3, f3, _⟩ := h2.upd S1.pos (S1.place + 1) S1.due S1.opn ta ov h2.op h2.oa h2.tg
  dsimp only at w3 f3
  have hc2 := h2.cell
  dsimp only at hc2
  have so3 := stO_cells (sz := 1) (H := H2) (id := c) (off := 2) (cs := [.int .i64 ((S1.place + 1 : Nat) : Int)]) (T := t_docs_cutter) (old := [.rslice P 0 (S1.done.length + 1) 1 true, .slice ta 1 (S1.pos.map intRow), .int .i64 S1.place, .bool S1.due, ov]) rfl (by simp) rfl
  simp only [st5] at so3
  generalize hG3 : H2.set c (AObj.cells [.rslice P 0 (S1.done.length + 1) 1 true, .slice ta 1 (S1.pos.map intRow), .int .i64 ((S1.place + 1 : Nat) : Int), .bool S1.due, ov] t_docs_cutter) = G3 at w3 f3 so3
  have hc3 := w3.cell
  dsimp only at hc3
  cases hh : hitF S1.pos (S1.place + 1) with
  | false =>
    refine ⟨_, ?_, ⟨P, q, vs, v, ta, ov, w3⟩, f2.trans f3⟩
    cases hps : S1.pos with
    | nil =>
      rw [hps] at hc2 hc3 so3 hG3
      simp only [List.map_nil] at hc2 hc3 so3 hG3
      have d0 : decide ((0 : Int) < ((0 : Nat) : Int)) = false := rfl
      rw [run_c M hC.docs_cutter_unit rfl (c := c_docs_cutter_unit) rfl, c_docs_cutter_unit]
      cases hd : S.due with
      | true =>
        rw [hd, sel_true] at c3
        simp (maxSteps := 3000000) (maxDischargeDepth := 6) +contextual -implicitDefEqProofs only [amC M, ↓amD, Nat.reduceBEq, Nat.reduceAdd, env, fargs, q_docs_cutter_unit, amG, AV.cell, Nat.reduceMul, Nat.reduceLeDiff, rnc, gx, g0, g0d, hd, qPiece, c3, hx1, q1, hc2, cl5, hw1, so3, hG3, hc3, List.map_nil, List.length_nil, d0, r1]
      | false =>
        rw [hd, sel_false] at c3
        subst c3
        simp (maxSteps := 3000000) (maxDischargeDepth := 6) +contextual -implicitDefEqProofs only [amC M, ↓amD, Nat.reduceBEq, Nat.reduceAdd, env, fargs, q_docs_cutter_unit, amG, AV.cell, Nat.reduceMul, Nat.reduceLeDiff, rnc, gx, g0, g0d, hd, qPiece, q1, hc2, cl5, hw1, so3, hG3, hc3, List.map_nil, List.length_nil, d0, r1]
    | cons x t =>
      rw [hps] at hc2 hc3 so3 hG3 hh
      have hx0 : (x == ((S1.place + 1 : Nat) : Int)) = false := hh
      have d0 : decide ((0 : Int) < (((x :: t).length : Nat) : Int)) = true := decide_eq_true (by simp)
      have hir := ias_row (row := intRow) (l := x :: t) (tag := ta) (sz := 1) (k := .i64) (i := 0) (by simp)
      rw [Int.ofNat_zero] at hir
      generalize hpp : x :: t = pp at hc2 hc3 so3 hG3 d0 hir
      have hp0 : pp[0]? = some x := by rw [← hpp]; rfl
      rw [run_c M hC.docs_cutter_unit rfl (c := c_docs_cutter_unit) rfl, c_docs_cutter_unit]
      cases hd : S.due with
      | true =>
        rw [hd, sel_true] at c3
        simp (maxSteps := 3000000) (maxDischargeDepth := 6) +contextual -implicitDefEqProofs only [amC M, ↓amD, Nat.reduceBEq, Nat.reduceAdd, env, fargs, q_docs_cutter_unit, amG, AV.cell, Nat.reduceMul, Nat.reduceLeDiff, rnc, gx, g0, g0d, hd, qPiece, c3, hx1, q1, hc2, cl5, hw1, so3, hG3, hc3, List.length_map, d0, hir, hp0, qIntR, hx0, r1]
      | false =>
        rw [hd, sel_false] at c3
        subst c3
        simp (maxSteps := 3000000) (maxDischargeDepth := 6) +contextual -implicitDefEqProofs only [amC M, ↓amD, Nat.reduceBEq, Nat.reduceAdd, env, fargs, q_docs_cutter_unit, amG, AV.cell, Nat.reduceMul, Nat.reduceLeDiff, rnc, gx, g0, g0d, hd, qPiece, q1, hc2, cl5, hw1, so3, hG3, hc3, List.length_map, d0, hir, hp0, qIntR, hx0, r1]
  | true =>
    obtain ⟨x, t, hps⟩ : ∃ x t, S1.pos = x :: t := by
      cases hq : S1.pos with
      | nil => rw [hq] at hh; cases hh
      | cons x t => exact ⟨x, t, rfl⟩
    have hx0 : (x == ((S1.place + 1 : Nat) : Int)) = true := by rw [hps] at hh; exact hh
    have d0 : decide ((0 : Int) < (((x :: t).length : Nat) : Int)) = true := decide_eq_true (by simp)
    have hir := ias_row (row := intRow) (l := x :: t) (tag := ta) (sz := 1) (k := .i64) (i := 0) (by simp)
    rw [Int.ofNat_zero] at hir
    have hsl : rsll 1 (.slice ta 1 ((x :: t).map intRow)) (some (.int .i64 1)) none none = some (.slice .any 1 (t.map intRow)) := by
      simp [rsll, abound]
      exact List.take_of_length_le (by simp)
    obtain ⟨w4, f4, _⟩ := w3.upd t (S1.place + 1) S1.due S1.opn .any ov w3.op w3.oa (.inl rfl)
    dsimp only at w4 f4
    rw [hps] at hc2 hc3 so3 hG3
    have so4 := stO_cells (sz := 1) (H := G3) (id := c) (off := 1) (cs := [.slice .any 1 (t.map intRow)]) (T := t_docs_cutter) (old := [.rslice P 0 (S1.done.length + 1) 1 true, .slice ta 1 ((x :: t).map intRow), .int .i64 ((S1.place + 1 : Nat) : Int), .bool S1.due, ov]) rfl (by simp) rfl
    simp only [st5] at so4
    generalize hG4 : G3.set c (AObj.cells [.rslice P 0 (S1.done.length + 1) 1 true, .slice .any 1 (t.map intRow), .int .i64 ((S1.place + 1 : Nat) : Int), .bool S1.due, ov] t_docs_cutter) = G4 at w4 f4 so4
    have hc4 := w4.cell
    dsimp only at hc4
    obtain ⟨w5, f5, _⟩ := w4.upd t (S1.place + 1) true S1.opn .any ov w4.op w4.oa (.inl rfl)
    dsimp only at w5 f5
    have so5 := stO_cells (sz := 1) (H := G4) (id := c) (off := 3) (cs := [.bool true]) (T := t_docs_cutter) (old := [.rslice P 0 (S1.done.length + 1) 1 true, .slice .any 1 (t.map intRow), .int .i64 ((S1.place + 1 : Nat) : Int), .bool S1.due, ov]) rfl (by simp) rfl
    simp only [st5] at so5
    refine ⟨_, ?_, ⟨P, q, vs, v, .any, ov, by rw [hps]; exact w5⟩, ((f2.trans f3).trans f4).trans f5⟩
    generalize hpp : x :: t = pp at hc2 hc3 so3 hG3 so4 d0 hir hsl
    have hp0 : pp[0]? = some x := by rw [← hpp]; rfl
    rw [run_c M hC.docs_cutter_unit rfl (c := c_docs_cutter_unit) rfl, c_docs_cutter_unit]
    cases hd : S.due with
    | true =>
      rw [hd, sel_true] at c3
      simp (maxSteps := 3000000) (maxDischargeDepth := 6) +contextual -implicitDefEqProofs only [amC M, ↓amD, Nat.reduceBEq, Nat.reduceAdd, env, fargs, q_docs_cutter_unit, amG, AV.cell, Nat.reduceMul, Nat.reduceLeDiff, rnc, gx, g0, g0d, hd, qPiece, c3, hx1, q1, hc2, cl5, hw1, so3, hG3, hc3, List.length_map, d0, hir, hp0, qIntR, hx0, hsl, so4, hG4, hc4, so5, r1]
    | false =>
      rw [hd, sel_false] at c3
      subst c3
      simp (maxSteps := 3000000) (maxDischargeDepth := 6) +contextual -implicitDefEqProofs only [amC M, ↓amD, Nat.reduceBEq, Nat.reduceAdd, env, fargs, q_docs_cutter_unit, amG, AV.cell, Nat.reduceMul, Nat.reduceLeDiff, rnc, gx, g0, g0d, hd, qPiece, q1, hc2, cl5, hw1, so3, hG3, hc3, List.length_map, d0, hir, hp0, qIntR, hx0, hsl, so4, hG4, hc4, so5, r1]
end Go.Am
end

section
set_option linter.unusedSimpArgs false
set_option linter.unusedVariables false
set_option maxRecDepth 100000
set_option maxHeartbeats 4000000
namespace Go.Am
open Go.RowKit
attribute [local congr] dsel_congr sel_c1 slc_cong gsel_congr go_congr aft_congr aftD_congr condR_congr backR_congr inR_congr at2_congr
variable {E : REnv} (M : Mach cdec E)

/-! docs.cut -/
def chrS (r : Nat) : Str := (Utf8.encode (r : Int)).data.toList
def chrP (r : Nat) : Piece := ⟨1, chrS r, false⟩
theorem chr_len (r : Nat) : (chrS r).length ≤ 4 := by
  unfold chrS
  simp only [Utf8.encode]
  repeat' split
  all_goals simp [ByteArray.size, ByteArray.push, ByteArray.empty, ByteArray.emptyWithCapacity]
theorem chrP_len (r : Nat) : (chrP r).text.length ≤ 4 := by
  have h := chr_len r
  simpa only [chrP] using h
def stpF (S : CSt) (p : Piece) : CSt := sel (p.kind == 1) ((runesL p.text).foldl (fun S r => unitF S (chrP r)) S) (sel (p.kind == 5) (unitF S p) (tagF S p))
/-- Bounds that grow. -/
structure CBm (m : Nat) (S : CSt) : Prop where
  opn : S.opn.length ≤ m
  opt : ∀ s ∈ S.opn, s.length ≤ m
  done : S.done.length ≤ m
  cur : S.cur.length ≤ 2 * m
  txt : ∀ x ∈ S.cur, x.text.length ≤ m
  place : S.place ≤ m
theorem CBm.mono {m n : Nat} {S : CSt} (h : CBm m S) (hn : m ≤ n) : CBm n S := ⟨Nat.le_trans h.opn hn, fun s hs => Nat.le_trans (h.opt s hs) hn, Nat.le_trans h.done hn, by have := h.cur; omega, fun x hx => Nat.le_trans (h.txt x hx) hn, Nat.le_trans h.place hn⟩
theorem CBm.bd {m : Nat} {S : CSt} (h : CBm m S) (hm : m ≤ 50000) : CBd S := ⟨by have := h.opn; omega, fun s hs => by have := h.opt s hs; omega, by have := h.done; omega, by have := h.cur; omega, fun x hx => by have := h.txt x hx; omega⟩
theorem turn_bm {m : Nat} {S : CSt} (h : CBm m S) : CBm (m + 1) (turnF S) := ⟨Nat.le_trans h.opn (by omega), fun s hs => Nat.le_trans (h.opt s hs) (by omega), by simp [turnF]; exact h.done, by simp [turnF]; have := h.opn; omega, fun x hx => by
  obtain ⟨s, hs, rfl⟩ := List.mem_map.1 (show x ∈ S.opn.map opnP from hx)
  exact Nat.le_trans (h.opt s hs) (by omega), Nat.le_trans h.place (by omega)⟩
theorem putF_len (l : List Piece) (p : Piece) : (putF l p).length ≤ l.length + 1 := by
  rcases List.eq_nil_or_concat l with rfl | ⟨t, x, rfl⟩
  · simp [putF]
  · rw [List.concat_eq_append, putF_snoc]
    cases p.kind == 1 && x.kind == 1 <;> simp [sel_true, sel_false]
theorem putF_txt {l : List Piece} {p : Piece} {m w : Nat} (h : ∀ x ∈ l, x.text.length ≤ m) (hp : p.text.length ≤ w) : ∀ x ∈ putF l p, x.text.length ≤ m + w := by
  intro y hy
  rcases List.eq_nil_or_concat l with rfl | ⟨t, x, rfl⟩
  · simp [putF] at hy; subst hy; omega
  · rw [List.concat_eq_append] at hy h
    rw [putF_snoc] at hy
    cases hk : p.kind == 1 && x.kind == 1 with
    | true =>
      rw [hk, sel_true] at hy
      rcases List.mem_append.1 hy with hy | hy
      · have := h y (List.mem_append_left _ hy); omega
      · rw [List.mem_singleton] at hy; subst hy
        have := h x (by simp)
        simp only [List.length_append]; omega
    | false =>
      rw [hk, sel_false] at hy
      rcases List.mem_append.1 hy with hy | hy
      · have := h y hy; omega
      · rw [List.mem_singleton] at hy; subst hy; omega
theorem due2_bm {m : Nat} {S : CSt} (h : CBm m S) : CBm (m + 1) (due2 S) := by
  unfold due2
  cases S.due
  · exact h.mono (by omega)
  · exact turn_bm h
theorem due1_bm {m : Nat} {S : CSt} (h : CBm m S) (p : Piece) : CBm (m + 1) (due1 S p) := by
  unfold due1
  cases S.due && !(p.kind == 3)
  · exact h.mono (by omega)
  · exact turn_bm h
theorem unit_bm {m w : Nat} {S : CSt} (h : CBm m S) {p : Piece} (hp : p.text.length ≤ w) : CBm (m + w + 2) (unitF S p) := by
  have h1 := due2_bm h
  refine ⟨by have := h1.opn; simp only [unitF]; omega, fun s hs => by have := h1.opt s hs; omega, by have := h1.done; simp only [unitF]; omega, by have := h1.cur; have := putF_len (due2 S).cur p; simp only [unitF]; omega, fun x hx => ?_, by have := h1.place; simp only [unitF]; omega⟩
  have := putF_txt h1.txt hp x hx; omega
theorem tag_bm {m w : Nat} {S : CSt} (h : CBm m S) {p : Piece} (hp : p.text.length ≤ w) : CBm (m + w + 2) (tagF S p) := by
  have h1 := due1_bm h p
  have ho : (opnF (due1 S p).opn p).length ≤ (due1 S p).opn.length + 1 ∧ ∀ s ∈ opnF (due1 S p).opn p, s.length ≤ m + 1 + w := by
    unfold opnF
    cases p.kind == 2 with
    | true =>
      refine ⟨by simp [sel_true], fun s hs => ?_⟩
      rw [sel_true] at hs
      rcases List.mem_append.1 hs with hs | hs
      · have := h1.opt s hs; omega
      · rw [List.mem_singleton] at hs; subst hs; omega
    | false =>
      cases p.kind == 3 with
      | true => exact ⟨by simp [sel_true, sel_false]; omega, fun s hs => by rw [sel_false, sel_true] at hs; have := h1.opt s (List.dropLast_subset _ hs); omega⟩
      | false => exact ⟨by simp [sel_false], fun s hs => by rw [sel_false, sel_false] at hs; have := h1.opt s hs; omega⟩
  refine ⟨by have := h1.opn; have := ho.1; simp only [tagF]; omega, fun s hs => by have := ho.2 s hs; omega, by have := h1.done; simp only [tagF]; omega, by have := h1.cur; have := putF_len (due1 S p).cur p; simp only [tagF]; omega, fun x hx => ?_, by have := h1.place; simp only [tagF]; omega⟩
  have := putF_txt h1.txt hp x hx; omega
theorem runes_bm : ∀ (rs : List Nat) {m : Nat} {S : CSt}, CBm m S → CBm (m + 6 * rs.length) (rs.foldl (fun S r => unitF S (chrP r)) S)
  | [], m, S, h => by simpa using h
  | r :: rs, m, S, h => by
    rw [List.foldl_cons]
    have h1 := unit_bm (w := 4) (p := chrP r) h (chrP_len r)
    have h2 := runes_bm rs h1
    exact h2.mono (by simp only [List.length_cons]; omega)
theorem step_bm {m : Nat} {S : CSt} (h : CBm m S) (p : Piece) : CBm (m + (6 * p.text.length + 2)) (stpF S p) := by
  unfold stpF
  have hr := runesL_len p.text
  cases p.kind == 1 with
  | true => rw [sel_true]; exact (runes_bm _ h).mono (by omega)
  | false =>
    rw [sel_false]
    cases p.kind == 5 with
    | true => rw [sel_true]; exact (unit_bm h (Nat.le_refl _)).mono (by omega)
    | false => rw [sel_false]; exact (tag_bm h (Nat.le_refl _)).mono (by omega)
def cutsF (S : CSt) (l : List Piece) : CSt := l.foldl stpF S
def szP (p : Piece) : Nat := 6 * p.text.length + 2
/-- No closing tag comes where none is open. -/
def opsOk : List Piece → Nat → Prop
  | [], _ => True
  | x :: l, n => ((x.kind == 3) = true → 0 < n) ∧ opsOk l (if x.kind == 2 then n + 1 else if x.kind == 3 then n - 1 else n)
theorem unit_opn (S : CSt) (p : Piece) : (unitF S p).opn = S.opn := by
  show (due2 S).opn = S.opn
  unfold due2; cases S.due <;> rfl
theorem runes_opn : ∀ (rs : List Nat) (S : CSt), (rs.foldl (fun S r => unitF S (chrP r)) S).opn = S.opn
  | [], S => rfl
  | r :: rs, S => by rw [List.foldl_cons, runes_opn rs, unit_opn]
theorem stp_opn {S : CSt} {p : Piece} : (stpF S p).opn.length = (if p.kind == 2 then S.opn.length + 1 else if p.kind == 3 then S.opn.length - 1 else S.opn.length) := by
  unfold stpF
  cases k1 : p.kind == 1 with
  | true => rw [sel_true, runes_opn, eq_of_beq k1]; rfl
  | false =>
    rw [sel_false]
    cases k5 : p.kind == 5 with
    | true => rw [sel_true, unit_opn, eq_of_beq k5]; rfl
    | false =>
      rw [sel_false]
      show (opnF (due1 S p).opn p).length = _
      rw [due1_opn, opnF]
      cases p.kind == 2 with
      | true => simp [sel_true]
      | false => cases p.kind == 3 <;> simp [sel_true, sel_false]
theorem CutV.setit {R : Nat → Prop} {c : Nat} {H : List AObj} {S : CSt} (h : CutV R c H S) {t : Nat} {s : Str} {i : Nat} (ht : H[t]? = some (.siter s i)) (j : Nat) : CutV R c (H.set t (.siter s j)) S := by
  obtain ⟨P, q, vs, v, ta, ov, h⟩ := h
  have hs : ∀ {k : Nat} {cs : List AV} {T : TypeId}, H[k]? = some (.cells cs T) → (H.set t (.siter s j))[k]? = some (.cells cs T) := fun {k cs T} hk => by
    rw [List.getElem?_set_ne (fun e => by subst e; rw [ht] at hk; cases hk)]; exact hk
  exact ⟨P, q, vs, v, ta, ov, ⟨h.hn, h.hP, fun i hi => by simpa using h.rl i hi, hs h.cell, hs h.par, h.len, fun i w l hi hl => ⟨(h.dn i w l hi hl).1.stay fun Q cs _ hQ => hs hQ, (h.dn i w l hi hl).2⟩, h.cr.stay fun Q cs _ hQ => hs hQ, h.ab, h.pr, by simpa using h.ql, h.op.stay fun O cs hO => hs hO, h.oa, h.tg⟩⟩
theorem rcvs_i : ∀ (k : IntKind) (n : Int), rcvs (.int k n) = some (.str (Utf8.encode n).data.toList) := fun _ _ => rfl
/-- The runes of a text. -/
theorem ct0 (hC : CutE E) {R : Nat → Prop} {c t : Nat} {s : Str} (hs : s.length ≤ maxL) (htR : ¬ R t) {H0 : List AObj} {v15 v16 v17 : AV} : ∀ (n i m : Nat) (H : List AObj) (S : CSt), s.length - i ≤ n → i ≤ s.length → H[t]? = some (.siter s i) → CutV R c H S → CBm m S → m + 6 * (s.length - i) ≤ 50000 →
    ∃ H', (∀ (k : List Fra) (He : List AObj), M.go a_docs_cut H0 (.c l_docs_cut_0 :: .lp ⟨(some [6, 15, 16, 17, 30]), [], false⟩ l_docs_cut_0 He :: .blk 3 :: .c (.lv [6, 15, 16, 17]) :: k) (kv [(6, .ptr c 0), (15, v15), (16, v16), (17, v17), (30, .ptr t 0)]) H = M.go a_docs_cut H0 k (kv [(6, .ptr c 0), (15, v15), (16, v16), (17, v17)]) H') ∧ CutV R c H' ((runesL (s.drop i)).foldl (fun S r => unitF S (chrP r)) S) ∧ H.length ≤ H'.length ∧ ∀ i, R i → H'[i]? = H[i]?
  | n, i, m, H, S, hn, hi, ht, hS, hb, hm => by
    by_cases hlt : i < s.length
    · have hne : s.drop i ≠ [] := fun e => by have := congrArg List.length e; simp at this; omega
      have hw := dec1_w (s.drop i)
      have hle := dec1_le hne
      rw [List.length_drop] at hle
      have hdd : Utf8.decode ⟨s.toArray⟩ i = dec1 (s.drop i) := dec1_drop s i
      rw [runesL_step hne, List.foldl_cons, List.drop_drop]
      generalize dec1 (s.drop i) = d at *
      have htl := (List.getElem?_eq_some_iff.1 ht).1
      have h1 := hS.setit ht (i + d.2)
      obtain ⟨H1, u1, u2, u3⟩ := run_unit M hC h1 (hb.bd (by omega)) (by have := hb.place; omega) (p := chrP d.1) (Nat.le_trans (chrP_len d.1) (by omega))
      have ht1 : H1[t]? = some (.siter s (i + d.2)) := u3.it t _ _ (List.getElem?_set_self htl)
      obtain ⟨H2, i1, i2, i3, i4⟩ := ct0 hC hs htR (H0 := H0) (v15 := v15) (v16 := v16) (v17 := v17) (n - 1) (i + d.2) (m + 6) H1 _ (by omega) (by omega) ht1 u2 (unit_bm hb (chrP_len d.1)) (by omega)
      refine ⟨H2, fun k He => ?_, i2, by have := u3.len; simp at this; omega, fun j hj => ?_⟩
      · rw [← i1 k H1]
        have hbd : M.run f_docs_cutter_unit [.ptr c 0, .agg [.int .u8 1, .str (Utf8.encode (d.1 : Int)).data.toList, .bool false]] (H.set t (.siter s (i + d.2))) = some (.ret (.tuple []), H1) := by have u := u1; simp only [Piece.row, chrP, chrS] at u; exact u
        rw [go_head M l_docs_cut_0.eq_1]
        simp (maxSteps := 3000000) (maxDischargeDepth := 6) +contextual -implicitDefEqProofs only [amC M, ↓amD, Nat.reduceBEq, Nat.reduceAdd, env, fargs, q_docs_cut, amG, AV.cell, Nat.reduceMul, Nat.reduceLeDiff, anext, ht, hlt, hdd, aextract, List.getElem?_cons_succ, List.getElem?_cons_zero, rcvs_i, hbd]
      · rw [i4 j hj, u3.low j hj, List.getElem?_set_ne (fun e => htR (by rw [e]; exact hj))]
    · obtain rfl : i = s.length := by omega
      rw [List.drop_length]
      refine ⟨H, fun k He => ?_, hS, Nat.le_refl _, fun _ _ => rfl⟩
      rw [go_head M l_docs_cut_0.eq_1]
      simp (maxSteps := 3000000) (maxDischargeDepth := 6) +contextual -implicitDefEqProofs only [amC M, ↓amD, Nat.reduceBEq, Nat.reduceAdd, env, fargs, q_docs_cut, anext, ht, List.getElem?_cons_zero, Nat.lt_irrefl, aextract]
end Go.Am
end

section
set_option linter.unusedSimpArgs false
set_option linter.unusedVariables false
set_option maxRecDepth 100000
set_option maxHeartbeats 4000000
namespace Go.Am
open Go.RowKit
attribute [local congr] dsel_congr sel_c1 slc_cong gsel_congr go_congr aft_congr aftD_congr condR_congr backR_congr inR_congr at2_congr
variable {E : REnv} (M : Mach cdec E)

/-! docs.cut: all pieces -/
theorem rrg_s : ∀ (G : List AObj) (s : Str), rrg G (.str s) = some (.ptr G.length 0, G ++ [.siter s 0]) := fun _ _ => rfl
def sumP (l : List Piece) : Nat := (l.map szP).sum
theorem sumP_cons (x : Piece) (l : List Piece) : sumP (x :: l) = szP x + sumP l := by simp [sumP]
theorem ct1 (hC : CutE E) {R : Nat → Prop} {c : Nat} {l : List Piece} {tg : Tag} (hl : l.length ≤ maxL) (htx : ∀ x ∈ l, x.text.length ≤ maxL) {H0 : List AObj} : ∀ (n i m : Nat) (H : List AObj) (S : CSt), i + n = l.length → CutV R c H S → CBm m S → opsOk (l.drop i) S.opn.length → m + sumP (l.drop i) ≤ 50000 →
    ∃ H', (∀ (k : List Fra) (He : List AObj), M.go a_docs_cut H0 (.c l_docs_cut_1 :: .lp ⟨(some [6, 15, 16, 17]), [], false⟩ l_docs_cut_1 He :: .blk 0 :: .c (.lv [6]) :: k) (kv [(6, .ptr c 0), (15, .slice tg 3 (l.map Piece.row)), (16, .int .i64 l.length), (17, .int .i64 i)]) H = M.go a_docs_cut H0 k (kv [(6, .ptr c 0)]) H') ∧ CutV R c H' (cutsF S (l.drop i)) ∧ H.length ≤ H'.length ∧ ∀ i, R i → H'[i]? = H[i]?
  | 0, i, m, H, S, h, hS, hb, hop, hm => by
    have e : i = l.length := by omega
    subst e
    refine ⟨H, fun k He => ?_, by rw [List.drop_length]; exact hS, Nat.le_refl _, fun _ _ => rfl⟩
    rw [go_head M l_docs_cut_1.eq_1]
    simp (maxSteps := 3000000) (maxDischargeDepth := 6) +contextual -implicitDefEqProofs only [amC M, ↓amD, Nat.reduceBEq, Nat.reduceAdd, env, fargs, q_docs_cut, Nat.lt_irrefl]
  | n + 1, i, m, H, S, h, hS, hb, hop, hm => by
    have hi : i < l.length := by omega
    have hx : l[i]? = some l[i] := List.getElem?_eq_getElem hi
    have hd : (l.drop i) = l[i] :: l.drop (i + 1) := List.drop_eq_getElem_cons hi
    have hmem : l[i] ∈ l := List.getElem_mem hi
    have hwi := wrap_s (n := l.length) hi hl
    have hir := ias_row (row := Piece.row) (tag := tg) (sz := 3) (k := .i64) hi
    rw [hd] at hop hm ⊢
    rw [sumP_cons, szP] at hm
    obtain ⟨hop1, hop2⟩ := hop
    rw [← stp_opn] at hop2
    have htl := htx _ hmem
    have hb2 := step_bm hb l[i]
    obtain ⟨l1, l2⟩ := hS.le
    have h1 := hS.app [AObj.cells l[i].row t_api_Piece]
    have gx := hp_get0 H [AObj.cells l[i].row t_api_Piece]
    rw [List.getElem?_cons_zero] at gx
    have hbd := hb.bd (by omega)
    -- one piece
    have one : ∃ H1, CutV R c H1 (stpF S l[i]) ∧ H.length ≤ H1.length ∧ (∀ j, R j → H1[j]? = H[j]?) ∧ (∀ k He, M.go a_docs_cut H0 (.c l_docs_cut_1 :: .lp ⟨(some [6, 15, 16, 17]), [], false⟩ l_docs_cut_1 He :: .blk 0 :: .c (.lv [6]) :: k) (kv [(6, .ptr c 0), (15, .slice tg 3 (l.map Piece.row)), (16, .int .i64 l.length), (17, .int .i64 i)]) H = M.go a_docs_cut H0 (.c l_docs_cut_1 :: .lp ⟨(some [6, 15, 16, 17]), [], false⟩ l_docs_cut_1 H1 :: .blk 0 :: .c (.lv [6]) :: k) (kv [(6, .ptr c 0), (15, .slice tg 3 (l.map Piece.row)), (16, .int .i64 l.length), (17, .int .i64 ((i + 1 : Nat) : Int))]) H1) := by
      unfold stpF
      cases k1 : l[i].kind == 1 with
      | true =>
        rw [sel_true]
        have h2 := h1.app [AObj.siter l[i].text 0]
        obtain ⟨H1, t1, t2, t3, t4⟩ := ct0 M hC (t := H.length + 1) htl (fun hR => by have := l2 _ hR; omega) (H0 := H0) (v15 := .slice tg 3 (l.map Piece.row)) (v16 := .int .i64 l.length) (v17 := .int .i64 i) l[i].text.length 0 m _ _ (by omega) (by omega) (by rw [List.append_assoc, hp_getk]; rfl) h2 hb (by omega)
        refine ⟨H1, by simpa using t2, by simp at t3; omega, fun j hj => ?_, fun k He => ?_⟩
        · have := l2 j hj
          rw [t4 j hj, List.getElem?_append_left (by simp; omega), List.getElem?_append_left this]
        · simp only [kv_cons, kv_nil, List.append_assoc, List.cons_append, List.nil_append] at t1
          rw [go_head M l_docs_cut_1.eq_1]
          simp (maxSteps := 3000000) (maxDischargeDepth := 6) +contextual -implicitDefEqProofs only [amC M, ↓amD, Nat.reduceBEq, Nat.reduceAdd, env, fargs, q_docs_cut, amG, AV.cell, Nat.reduceMul, Nat.reduceLeDiff, hi, hx, hir, hwi, qPiece, gx, k1, rrg_s, t1]
      | false =>
        rw [sel_false]
        cases k5 : l[i].kind == 5 with
        | true =>
          rw [sel_true]
          obtain ⟨H1, u1, u2, u3⟩ := run_unit M hC h1 hbd (by have := hb.place; omega) (p := l[i]) (by omega)
          refine ⟨H1, u2, by have := u3.len; simp at this; omega, fun j hj => by rw [u3.low j hj, List.getElem?_append_left (l2 j hj)], fun k He => ?_⟩
          rw [go_head M l_docs_cut_1.eq_1]
          simp (maxSteps := 3000000) (maxDischargeDepth := 6) +contextual -implicitDefEqProofs only [amC M, ↓amD, Nat.reduceBEq, Nat.reduceAdd, env, fargs, q_docs_cut, amG, AV.cell, Nat.reduceMul, Nat.reduceLeDiff, hi, hx, hir, hwi, qPiece, gx, k1, k5, u1]
        | false =>
          rw [sel_false]
          obtain ⟨H1, u1, u2, u3⟩ := run_tag M hC h1 hbd (p := l[i]) (by omega) (fun hk => by
            intro e; have := hop1 hk; rw [e] at this; simp at this)
          refine ⟨H1, u2, by have := u3.len; simp at this; omega, fun j hj => by rw [u3.low j hj, List.getElem?_append_left (l2 j hj)], fun k He => ?_⟩
          rw [go_head M l_docs_cut_1.eq_1]
          simp (maxSteps := 3000000) (maxDischargeDepth := 6) +contextual -implicitDefEqProofs only [amC M, ↓amD, Nat.reduceBEq, Nat.reduceAdd, env, fargs, q_docs_cut, amG, AV.cell, Nat.reduceMul, Nat.reduceLeDiff, hi, hx, hir, hwi, qPiece, gx, k1, k5, u1]
    obtain ⟨H1, o1, o2, o3, o4⟩ := one
    obtain ⟨H2, i1, i2, i3, i4⟩ := ct1 hC hl htx (H0 := H0) (tg := tg) n (i + 1) (m + (6 * l[i].text.length + 2)) H1 _ (by omega) o1 hb2 hop2 (by omega)
    exact ⟨H2, fun k He => by rw [o4 k He, i1 k H1], i2, by omega, fun j hj => by rw [i4 j hj, o3 j hj]⟩
end Go.Am
end

section
set_option linter.unusedSimpArgs false
set_option linter.unusedVariables false
set_option maxRecDepth 100000
set_option maxHeartbeats 4000000
namespace Go.Am
open Go.RowKit
attribute [local congr] dsel_congr sel_c1 slc_cong gsel_congr go_congr aft_congr aftD_congr condR_congr backR_congr inR_congr at2_congr
variable {E : REnv} (M : Mach cdec E)

/-! docs.cut: the whole; docs.Cut -/
def bigP (l : List Piece) : Bool := decide ((512 : Int) < (l.length : Int))
theorem run_cut1 (hC : CutE E) {G : List AObj} {w : AV} {l : List Piece} (h : PcV G w l) : M.run f_docs_cut_1 [w] G = some (.ret (.bool (bigP l)), G) := by
  rw [run_c M hC.docs_cut_1 rfl (c := c_docs_cut_1) rfl, c_docs_cut_1]
  have hl := fun H => lenPcV (G := H) h
  simp (maxSteps := 3000000) (maxDischargeDepth := 6) +contextual -implicitDefEqProofs only [amC M, ↓amD, Nat.reduceBEq, Nat.reduceAdd, env, fargs, q_docs_cut_1, hl, bigP]
theorem ixl (hC : CutE E) {G H0 : List AObj} (hc : CutOk H0 G) {P : Nat} {ws : List AV} {pl : List (List Piece)} (hP : G[P]? = some (.cells ws t_sl_api_Piece)) (hl : ws.length = pl.length) (hb : pl.length ≤ 1000000) (hw : ∀ (i : Nat) (w : AV) (l : List Piece), ws[i]? = some w → pl[i]? = some l → PcV G w l) : ∀ (n i : Nat), i + n = pl.length →
    sel ((pl.drop i).any bigP) (∃ j : Nat, ∀ (k : List Fra) (He : List AObj), M.go a_slices_IndexFunc_api_Piece_api_Piece H0 (.c l_slices_IndexFunc_api_Piece_api_Piece_0 :: .lp ⟨(some [0, 1, 7, 8]), [], false⟩ l_slices_IndexFunc_api_Piece_api_Piece_0 He :: .blk 0 :: .c (.lv []) :: k) (kv [(0, .rslice P 0 pl.length 1 true), (1, .fn (.func f_docs_cut_1) [] []), (7, .int .i64 pl.length), (8, .int .i64 i)]) G = some (.ret (.int .i64 j), G.take H0.length))
      (∀ (k : List Fra) (He : List AObj), M.go a_slices_IndexFunc_api_Piece_api_Piece H0 (.c l_slices_IndexFunc_api_Piece_api_Piece_0 :: .lp ⟨(some [0, 1, 7, 8]), [], false⟩ l_slices_IndexFunc_api_Piece_api_Piece_0 He :: .blk 0 :: .c (.lv []) :: k) (kv [(0, .rslice P 0 pl.length 1 true), (1, .fn (.func f_docs_cut_1) [] []), (7, .int .i64 pl.length), (8, .int .i64 i)]) G = M.go a_slices_IndexFunc_api_Piece_api_Piece H0 k .leaf G)
  | 0, i, h => by
    have e : i = pl.length := by omega
    subst e
    rw [List.drop_length, List.any_nil, sel_false]
    intro k He
    rw [go_head M l_slices_IndexFunc_api_Piece_api_Piece_0.eq_1]
    simp (maxSteps := 3000000) (maxDischargeDepth := 6) +contextual -implicitDefEqProofs only [amC M, ↓amD, Nat.reduceBEq, Nat.reduceAdd, env, fargs, q_slices_IndexFunc_api_Piece_api_Piece, Nat.lt_irrefl]
  | n + 1, i, h => by
    have hi : i < pl.length := by omega
    have hiw : i < ws.length := by omega
    have hx : pl[i]? = some pl[i] := List.getElem?_eq_getElem hi
    have hxw : ws[i]? = some ws[i] := List.getElem?_eq_getElem hiw
    have hd : (pl.drop i) = pl[i] :: pl.drop (i + 1) := List.drop_eq_getElem_cons hi
    have hf := run_cut1 M hC (hw i _ _ hxw hx)
    have hia := ias_par (id := P) hi .i64
    have hld : rload none ws i = some ws[i] := by simp only [rload, hxw]
    have hwi := wrap_s (n := pl.length) hi (by simp only [maxL]; omega)
    rw [hd, List.any_cons]
    cases hbg : bigP pl[i] with
    | true =>
      rw [Bool.true_or, sel_true]
      refine ⟨i, fun k He => ?_⟩
      rw [go_head M l_slices_IndexFunc_api_Piece_api_Piece_0.eq_1]
      simp (maxSteps := 3000000) (maxDischargeDepth := 6) +contextual -implicitDefEqProofs only [amC M, ↓amD, Nat.reduceBEq, Nat.reduceAdd, env, fargs, q_slices_IndexFunc_api_Piece_api_Piece, hi, hP, hia, hld, hf, hbg, hc]
    | false =>
      have ih := ixl hC hc hP hl hb hw n (i + 1) (by omega)
      rw [Bool.false_or]
      have step : ∀ (k : List Fra) (He : List AObj), M.go a_slices_IndexFunc_api_Piece_api_Piece H0 (.c l_slices_IndexFunc_api_Piece_api_Piece_0 :: .lp ⟨(some [0, 1, 7, 8]), [], false⟩ l_slices_IndexFunc_api_Piece_api_Piece_0 He :: .blk 0 :: .c (.lv []) :: k) (kv [(0, .rslice P 0 pl.length 1 true), (1, .fn (.func f_docs_cut_1) [] []), (7, .int .i64 pl.length), (8, .int .i64 i)]) G = M.go a_slices_IndexFunc_api_Piece_api_Piece H0 (.c l_slices_IndexFunc_api_Piece_api_Piece_0 :: .lp ⟨(some [0, 1, 7, 8]), [], false⟩ l_slices_IndexFunc_api_Piece_api_Piece_0 G :: .blk 0 :: .c (.lv []) :: k) (kv [(0, .rslice P 0 pl.length 1 true), (1, .fn (.func f_docs_cut_1) [] []), (7, .int .i64 pl.length), (8, .int .i64 ((i + 1 : Nat) : Int))]) G := fun k He => by
        rw [go_head M l_slices_IndexFunc_api_Piece_api_Piece_0.eq_1]
        simp (maxSteps := 3000000) (maxDischargeDepth := 6) +contextual -implicitDefEqProofs only [amC M, ↓amD, Nat.reduceBEq, Nat.reduceAdd, env, fargs, q_slices_IndexFunc_api_Piece_api_Piece, hi, hP, hia, hld, hf, hbg, hwi]
      cases ha : (pl.drop (i + 1)).any bigP with
      | true =>
        rw [ha, sel_true] at ih
        rw [sel_true]
        obtain ⟨j, ih⟩ := ih
        exact ⟨j, fun k He => by rw [step k He, ih k G]⟩
      | false =>
        rw [ha, sel_false] at ih
        rw [sel_false]
        exact fun k He => by rw [step k He, ih k G]
theorem run_contF (hC : CutE E) {G : List AObj} {P : Nat} {ws : List AV} {pl : List (List Piece)} (hP : G[P]? = some (.cells ws t_sl_api_Piece)) (hl : ws.length = pl.length) (hb : pl.length ≤ 1000000) (hw : ∀ (i : Nat) (w : AV) (l : List Piece), ws[i]? = some w → pl[i]? = some l → PcV G w l) :
    M.run f_slices_ContainsFunc_api_Piece_api_Piece [.rslice P 0 pl.length 1 true, .fn (.func f_docs_cut_1) [] []] G = some (.ret (.bool (pl.any bigP)), G) := by
  have h := ixl M hC (cut_refl G) hP hl hb hw pl.length 0 (by omega)
  rw [List.drop_zero] at h
  have hi : ∃ z : Int, decide ((0 : Int) ≤ z) = pl.any bigP ∧ M.run f_slices_IndexFunc_api_Piece_api_Piece [.rslice P 0 pl.length 1 true, .fn (.func f_docs_cut_1) [] []] G = some (.ret (.int .i64 z), G) := by
    cases ha : pl.any bigP with
    | true =>
      rw [ha, sel_true] at h
      obtain ⟨j, h⟩ := h
      simp only [kv_cons, kv_nil, Int.ofNat_zero] at h
      refine ⟨(j : Int), decide_eq_true (by omega), ?_⟩
      rw [run_c M hC.slices_IndexFunc_api_Piece_api_Piece rfl (c := c_slices_IndexFunc_api_Piece_api_Piece) rfl, c_slices_IndexFunc_api_Piece_api_Piece]
      simp (maxSteps := 3000000) (maxDischargeDepth := 6) +contextual -implicitDefEqProofs only [amC M, ↓amD, Nat.reduceBEq, Nat.reduceAdd, env, fargs, q_slices_IndexFunc_api_Piece_api_Piece, h, hp_self]
    | false =>
      rw [ha, sel_false] at h
      simp only [kv_cons, kv_nil, Int.ofNat_zero] at h
      refine ⟨-1, rfl, ?_⟩
      rw [run_c M hC.slices_IndexFunc_api_Piece_api_Piece rfl (c := c_slices_IndexFunc_api_Piece_api_Piece) rfl, c_slices_IndexFunc_api_Piece_api_Piece]
      simp (maxSteps := 3000000) (maxDischargeDepth := 6) +contextual -implicitDefEqProofs only [amC M, ↓amD, Nat.reduceBEq, Nat.reduceAdd, env, fargs, q_slices_IndexFunc_api_Piece_api_Piece, h, hp_self, cut_refl]
  obtain ⟨z, z1, z2⟩ := hi
  rw [run_c M hC.slices_ContainsFunc_api_Piece_api_Piece rfl (c := c_slices_ContainsFunc_api_Piece_api_Piece) rfl, c_slices_ContainsFunc_api_Piece_api_Piece]
  simp (maxSteps := 3000000) (maxDischargeDepth := 6) +contextual -implicitDefEqProofs only [amC M, ↓amD, Nat.reduceBEq, Nat.reduceAdd, env, fargs, q_slices_ContainsFunc_api_Piece_api_Piece, z2, z1]
def ptag (l : List Piece) : Tag := match l with
  | [] => .nil
  | _ => .any
def plR (l : List Piece) : List AV := [.slice (ptag l) 3 (l.map Piece.row)]
theorem rchunk_pc : ∀ l : List Piece, rchunk 3 l.length (pcC l) = l.map Piece.row
  | [] => rfl
  | x :: l => by
    rw [List.length_cons, show pcC (x :: l) = x.row ++ pcC l from rfl, rchunk, List.map_cons, show (x.row ++ pcC l).drop 3 = pcC l from rfl, rchunk_pc l]; rfl
theorem rchunk_1 : ∀ l : List AV, rchunk 1 l.length l = l.map fun w => [w]
  | [] => rfl
  | x :: l => by rw [List.length_cons, rchunk, List.map_cons, List.drop_one, List.tail_cons, rchunk_1 l]; rfl
theorem fz_pcs {k n : Nat} {H : List AObj} (l : List Piece) : mapO (mapO (fzF (k + 1) n H)) (l.map Piece.row) = some (l.map Piece.row) :=
  mapO_map fun x _ => mapO_cons (fz_int _ _ _ _ _) (mapO_cons (fz_str _ _ _ _) (mapO_cons (fz_bool _ _ _ _) (mapO_nil _)))
theorem fz_pc {k n : Nat} {G : List AObj} {w : AV} {l : List Piece} (h : PcV G w l) (hf : free (fun i => i < n) w) : fzF (k + 2) n G w = some (.slice (ptag l) 3 (l.map Piece.row)) := by
  rcases h with ⟨rfl, rfl⟩ | ⟨hne, Q, rfl, hQ⟩
  · exact fz_rows (t := .nil) (mapO_nil _)
  · have hn := hf Q _ _ _ _ rfl
    have ht : ptag l = .any := by
      cases l with
      | nil => exact absurd rfl hne
      | cons x l => rfl
    rw [ht]
    exact fz_rslice (by omega) hQ (by rw [pcC_len]; omega) (by rw [List.drop_zero, rchunk_pc]; exact fz_pcs l)
theorem cuts_bm : ∀ (l : List Piece) {m : Nat} {S : CSt}, CBm m S → CBm (m + sumP l) (cutsF S l)
  | [], m, S, h => by
    show CBm (m + 0) S
    exact h
  | x :: l, m, S, h => by
    have h1 := cuts_bm l (step_bm h x)
    rw [sumP_cons, szP, ← Nat.add_assoc]
    exact h1
def cutS (l : List Piece) (pos : List Int) : CSt := cutsF ⟨[], [], pos, 0, false, []⟩ l
def cutL (l : List Piece) (pos : List Int) : List (List Piece) := (cutS l pos).done ++ [(cutS l pos).cur]
def cutV (l : List Piece) (pos : List Int) : AV := .tuple [.slice .any 1 ((cutL l pos).map plR), .bool (!(cutL l pos).any bigP)]
theorem run_cut (hC : CutE E) {l : List Piece} {tg ta : Tag} {pos : List Int} (hl : l.length ≤ maxL) (htx : ∀ x ∈ l, x.text.length ≤ maxL) (hta : ta = .any ∨ ta = .some ∨ pos = []) (hop : opsOk l 0) (hm : sumP l ≤ 50000) (H : List AObj) :
    M.run f_docs_cut [.slice tg 3 (l.map Piece.row), .slice ta 1 (pos.map intRow)] H = some (.ret (cutV l pos), H) := by
  obtain ⟨G, hG⟩ : ∃ G, G = H ++ [AObj.cells [.slice .nil 3 []] t_sl_api_Piece, AObj.cells [.rslice H.length 0 1 1 true, .slice ta 1 (pos.map intRow), .int .i64 0, .bool false, .slice .nil 1 []] t_docs_cutter] := ⟨_, rfl⟩
  have w0 : CutV (fun i => i < H.length) (H.length + 1) G ⟨[], [], pos, 0, false, []⟩ := by
    refine ⟨H.length, H.length + 2, [], .slice .nil 3 [], ta, .slice .nil 1 [], ⟨by omega, by omega, fun i hi => by rw [hG]; simp; omega, by rw [hG, hp_getk]; rfl, by rw [hG, hp_get0]; rfl, rfl, fun i w l h => by simp at h, .inl ⟨rfl, rfl⟩, fun Q o n e r eq => (by cases eq), fun Q o n e r eq => (by cases eq), by rw [hG]; simp, .inl ⟨rfl, rfl⟩, fun Q o n e r eq => (by cases eq), hta⟩⟩
  have b0 : CBm 0 ⟨[], [], pos, 0, false, []⟩ := ⟨Nat.le_refl _, fun s hs => (by cases hs), Nat.le_refl _, Nat.le_refl _, fun x hx => (by cases hx), Nat.le_refl _⟩
  obtain ⟨H1, c1, c2, c3, c4⟩ := ct1 M hC (tg := tg) hl htx (H0 := H) l.length 0 0 G _ (by omega) w0 b0 (by rw [List.drop_zero]; exact hop) (by rw [List.drop_zero]; omega)
  rw [List.drop_zero] at c2
  have hS : cutsF ⟨[], [], pos, 0, false, []⟩ l = cutS l pos := rfl
  rw [hS] at c2
  obtain ⟨P, q, vs, v, ta', ov, h⟩ := c2
  have hlen : (vs ++ [v]).length = (cutL l pos).length := by simp [cutL, h.len]
  have hws : ∀ (i : Nat) (w : AV) (p : List Piece), (vs ++ [v])[i]? = some w → (cutL l pos)[i]? = some p → PcV H1 w p ∧ free (fun i => i < H.length) w := fun i w p hi hp => by
    by_cases hlt : i < vs.length
    · rw [List.getElem?_append_left hlt] at hi
      rw [cutL, List.getElem?_append_left (by rw [← h.len]; exact hlt)] at hp
      have := h.dn i w p hi hp
      exact ⟨this.1, this.2.2⟩
    · have hi2 : i = vs.length := by
        have := (List.getElem?_eq_some_iff.1 hi).1
        simp at this; omega
      subst hi2
      rw [List.getElem?_append_right (Nat.le_refl _), Nat.sub_self, List.getElem?_cons_zero] at hi
      rw [cutL, List.getElem?_append_right (by rw [h.len]; exact Nat.le_refl _), h.len, Nat.sub_self, List.getElem?_cons_zero] at hp
      cases hi; cases hp
      exact ⟨h.cr, h.pr⟩
  have hk : H1.take H.length = H := by
    refine List.ext_getElem? fun i => ?_
    by_cases hi : i < H.length
    · rw [List.getElem?_take_of_lt hi, c4 i hi, hG, List.getElem?_append_left hi]
    · rw [List.getElem?_eq_none (by simp; omega), List.getElem?_eq_none (by omega)]
  have hcut : CutOk H H1 := ⟨by have := h.rl; rw [hG] at c3; simp at c3; omega, fun i x hi hx => .inl (by rw [← hk, List.getElem?_take_of_lt hi]; exact hx)⟩
  have hfz : Fz H.length H1 (.tuple [.rslice P 0 ((cutS l pos).done.length + 1) 1 true, .bool (!(cutL l pos).any bigP)]) (cutV l pos) := by
    refine ⟨6, fz_tuple (mapO_cons (fz_rslice (by have := h.hP; omega) h.par (by simp [h.len]) ?_) (mapO_cons (fz_bool _ _ _ _) (mapO_nil _)))⟩
    rw [List.drop_zero, show (cutS l pos).done.length + 1 = (vs ++ [v]).length by simp [h.len], rchunk_1]
    refine mapO_all (by rw [List.length_map, List.length_map]; exact hlen) fun i x y hx hy => ?_
    rw [List.getElem?_map] at hx hy
    cases hxi : (vs ++ [v])[i]? with
    | none => rw [hxi] at hx; cases hx
    | some w =>
      cases hyi : (cutL l pos)[i]? with
      | none => rw [hyi] at hy; cases hy
      | some p =>
        rw [hxi] at hx; rw [hyi] at hy; cases hx; cases hy
        obtain ⟨g1, g2⟩ := hws i w p hxi hyi
        exact mapO_cons (fz_pc g1 g2) (mapO_nil _)
  have hh := handV_deep hcut hfz
  rw [hk] at hh
  have hdn := (cuts_bm l b0).done
  rw [hS] at hdn
  have hlc : (cutS l pos).done.length + 1 = (cutL l pos).length := by rw [← hlen]; simp [h.len]
  have hcf := run_contF M hC (P := P) (ws := vs ++ [v]) (pl := cutL l pos) h.par hlen (by omega) fun i w p hi hp => (hws i w p hi hp).1
  have hcl := h.cell
  rw [hlc] at hcl hh
  simp only [kv_cons, kv_nil, Int.ofNat_zero] at c1
  rw [hG] at c1
  rw [run_c M hC.docs_cut rfl (c := c_docs_cut) rfl, c_docs_cut]
  simp (maxSteps := 3000000) (maxDischargeDepth := 6) +contextual -implicitDefEqProofs only [amC M, ↓amD, Nat.reduceBEq, Nat.reduceAdd, env, fargs, q_docs_cut, amG, AV.cell, Nat.reduceMul, Nat.reduceLeDiff, rnc, List.length_map, c1, hcl, cl5, hcf, hh]
end Go.Am
end

section
set_option linter.unusedSimpArgs false
set_option linter.unusedVariables false
set_option maxRecDepth 100000
set_option maxHeartbeats 4000000
namespace Go.Am
open Go.RowKit
attribute [local congr] dsel_congr sel_c1 slc_cong gsel_congr go_congr aft_congr aftD_congr condR_congr backR_congr inR_congr at2_congr
variable {E : REnv} (M : Mach cdec E)

/-! docs.Cut -/
theorem chkL_ops : ∀ (l : List Piece) (p b e : Bool) (st : List Str), chkL l p b e st = 0 → opsOk l st.length
  | [], _, _, _, _, _ => trivial
  | x :: l, p, b, e, st, h => by
    rw [chkL] at h
    cases h1 : argE x with
    | true => rw [h1, sel_true] at h; cases h
    | false =>
    rw [h1, sel_false] at h
    cases h2 : carE x with
    | true => rw [h2, sel_true] at h; cases h
    | false =>
    rw [h2, sel_false] at h
    cases h3 : frmE p x with
    | true => rw [h3, sel_true] at h; cases h
    | false =>
    rw [h3, sel_false] at h
    cases h4 : namE x with
    | true => rw [h4, sel_true] at h; cases h
    | false =>
    rw [h4, sel_false] at h
    cases h5 : takesB b e x with
    | false => rw [h5, sel_false] at h; cases h
    | true =>
    rw [h5, sel_true] at h
    cases h6 : (x.kind == 3) && !popB st x.text with
    | true => rw [h6, sel_true] at h; cases h
    | false =>
    rw [h6, sel_false] at h
    cases k3 : x.kind == 3 with
    | true =>
      have k2 : (x.kind == 2) = false := by rw [eq_of_beq k3]; rfl
      rw [k3, Bool.true_and, Bool.not_eq_false'] at h6
      rw [k2, sel_false] at h
      have hst : stP x st = st.tail := by unfold stP; simp [k3]
      have hne : st ≠ [] := fun e => by rw [e] at h6; cases h6
      rw [hst] at h
      have ih := chkL_ops l _ _ _ _ h
      refine ⟨fun _ => List.length_pos_iff.2 hne, ?_⟩
      rw [if_neg (by simp [k2]), if_pos k3]
      rwa [List.length_tail] at ih
    | false =>
      have hst : stP x st = st := by unfold stP; simp [k3]
      rw [hst] at h
      cases k2 : x.kind == 2 with
      | true =>
        rw [k2, sel_true] at h
        cases h7 : decide ((16 : Int) < ((x.text :: st).length : Int)) with
        | true => rw [h7, sel_true] at h; cases h
        | false =>
          rw [h7, sel_false] at h
          have ih := chkL_ops l _ _ _ _ h
          refine ⟨fun hk => (by rw [k3] at hk; cases hk), ?_⟩
          rw [if_pos k2]; exact ih
      | false =>
        rw [k2, sel_false] at h
        have ih := chkL_ops l _ _ _ _ h
        refine ⟨fun hk => (by rw [k3] at hk; cases hk), ?_⟩
        rw [if_neg (by simp [k2]), if_neg (by simp [k3])]; exact ih
theorem checkP_ops {l : List Piece} (h : checkP l = 0) : opsOk l 0 := by
  unfold checkP at h
  cases hb : decide ((512 : Int) < (l.length : Int)) with
  | true => rw [hb] at h; cases h
  | false => rw [hb, sel_false] at h; exact chkL_ops l _ _ _ [] h
theorem sumP_eq : ∀ l : List Piece, sumP l = 6 * txtN l + 2 * l.length
  | [] => rfl
  | x :: l => by
    rw [sumP_cons, sumP_eq l, szP, txtN, txtN, List.map_cons, List.sum_cons, List.length_cons]; omega
def okA (n : Int) : Option Int → List Int → Bool
  | _, [] => true
  | p, k :: t => !(decide (k < 1)) && (!(decide (n - 1 < k)) && ((match p with
    | none => true
    | some q => !(decide (k ≤ q))) && okA n (some k) t))
theorem okA_cons (n : Int) (p : Option Int) (k : Int) (t : List Int) : okA n p (k :: t) = (!(decide (k < 1)) && (!(decide (n - 1 < k)) && ((match p with
    | none => true
    | some q => !(decide (k ≤ q))) && okA n (some k) t))) := by rw [okA.eq_def]
def prv (l : List Int) (i : Nat) : Option Int := match i with
  | 0 => none
  | i + 1 => l[i]?
theorem dcl {H H0 : List AObj} {pos : List Int} {ta : Tag} (hl : pos.length ≤ 1000) {v0 : AV} {n2 : Nat} (hn2 : n2 ≤ 1000000) (hc : CutOk H0 H) (k : List Fra) : ∀ (n i : Nat) (He : List AObj), i + n = pos.length →
    M.go a_docs_Cut H0 (.c l_docs_Cut_0 :: .lp ⟨(some [0, 1, 6, 20, 21, 22]), [], false⟩ l_docs_Cut_0 He :: .blk 0 :: .c (.lv [0, 1]) :: k) (kv [(0, v0), (1, .slice ta 1 (pos.map intRow)), (6, .int .i64 n2), (20, .slice ta 1 (pos.map intRow)), (21, .int .i64 pos.length), (22, .int .i64 i)]) H =
      sel (okA n2 (prv pos i) (pos.drop i)) (M.go a_docs_Cut H0 k (kv [(0, v0), (1, .slice ta 1 (pos.map intRow))]) (H)) (some (.ret (.tuple [.slice .any 1 [], .int .u8 1]), H.take H0.length))
  | 0, i, He, h => by
    have e : i = pos.length := by omega
    subst e
    rw [go_head M l_docs_Cut_0.eq_1]
    simp (maxSteps := 3000000) (maxDischargeDepth := 6) +contextual -implicitDefEqProofs only [amC M, ↓amD, Nat.reduceBEq, Nat.reduceAdd, env, fargs, q_docs_Cut, Nat.lt_irrefl, List.drop_length, okA]
  | n + 1, i, He, h => by
    have hi : i < pos.length := by omega
    have hx : pos[i]? = some pos[i] := List.getElem?_eq_getElem hi
    have hd : (pos.drop i) = pos[i] :: pos.drop (i + 1) := List.drop_eq_getElem_cons hi
    have hm : pos[i] ∈ pos := List.getElem_mem hi
    have ih := fun He => dcl (H := H) (H0 := H0) (pos := pos) (ta := ta) (hl := hl) (v0 := v0) (n2 := n2) (hn2 := hn2) hc k n (i + 1)  He (by omega)
    simp only [kv_cons, kv_nil] at ih
    have hwi := wrap_s (n := pos.length) hi (by simp only [maxL]; omega)
    have hir := ias_row (row := intRow) (tag := ta) (sz := 1) (k := .i64) hi
    have hw1 : IntKind.i64.wrap ((n2 : Int) - 1) = (n2 : Int) - 1 := wrap_i64 (by omega) (by omega)
    have hpv : prv pos (i + 1) = some pos[i] := hx
    rw [hd, okA_cons]
    rw [hpv] at ih
    cases d1 : decide (pos[i] < 1) with
    | true =>
      rw [go_head M l_docs_Cut_0.eq_1]
      simp (maxSteps := 3000000) (maxDischargeDepth := 6) +contextual -implicitDefEqProofs only [amC M, ↓amD, Nat.reduceBEq, Nat.reduceAdd, env, fargs, q_docs_Cut, hi, hx, hir, qIntR, d1, hc, rowsWk_nil, wk_tuple, Bool.not_true, Bool.false_and]
    | false =>
      cases d2 : decide ((n2 : Int) - 1 < pos[i]) with
      | true =>
        rw [go_head M l_docs_Cut_0.eq_1]
        simp (maxSteps := 3000000) (maxDischargeDepth := 6) +contextual -implicitDefEqProofs only [amC M, ↓amD, Nat.reduceBEq, Nat.reduceAdd, env, fargs, q_docs_Cut, hi, hx, hir, qIntR, d1, hw1, d2, hc, rowsWk_nil, wk_tuple, Bool.not_true, Bool.not_false, Bool.true_and, Bool.false_and]
      | false =>
        cases i with
        | zero =>
          have d3 : decide ((0 : Int) < ((0 : Nat) : Int)) = false := rfl
          rw [go_head M l_docs_Cut_0.eq_1]
          simp (maxSteps := 3000000) (maxDischargeDepth := 6) +contextual -implicitDefEqProofs only [amC M, ↓amD, Nat.reduceBEq, Nat.reduceAdd, env, fargs, q_docs_Cut, hi, hx, hir, qIntR, d1, hw1, d2, d3, hwi, ih, prv, Bool.not_true, Bool.not_false, Bool.true_and, Bool.false_and]
        | succ i =>
          have hi0 : i < pos.length := by omega
          have hx0 : pos[i]? = some pos[i] := List.getElem?_eq_getElem hi0
          have hir0 := ias_row (row := intRow) (tag := ta) (sz := 1) (k := .i64) hi0
          have d3 : decide ((0 : Int) < ((i + 1 : Nat) : Int)) = true := decide_eq_true (by omega)
          have hw3 : IntKind.i64.wrap (((i + 1 : Nat) : Int) - 1) = (i : Int) := by rw [wrap_i64 (by omega) (by omega)]; omega
          have hpv0 : prv pos (i + 1) = some pos[i] := hx0
          rw [hpv0]
          cases d4 : decide (pos[i + 1] ≤ pos[i]) with
          | true =>
            rw [go_head M l_docs_Cut_0.eq_1]
            simp (maxSteps := 3000000) (maxDischargeDepth := 6) +contextual -implicitDefEqProofs only [amC M, ↓amD, Nat.reduceBEq, Nat.reduceAdd, env, fargs, q_docs_Cut, hi, hx, hx0, hir, hir0, qIntR, d1, hw1, d2, d3, hw3, d4, hc, rowsWk_nil, wk_tuple, Bool.not_true, Bool.not_false, Bool.true_and, Bool.false_and]
          | false =>
            rw [go_head M l_docs_Cut_0.eq_1]
            simp (maxSteps := 3000000) (maxDischargeDepth := 6) +contextual -implicitDefEqProofs only [amC M, ↓amD, Nat.reduceBEq, Nat.reduceAdd, env, fargs, q_docs_Cut, hi, hx, hx0, hir, hir0, qIntR, d1, hw1, d2, d3, hw3, d4, hwi, ih, Bool.not_true, Bool.not_false, Bool.true_and, Bool.false_and]
def cutRV (l : List Piece) (pos : List Int) : AV :=
  sel (checkP l == 0) (sel (okA ((unL l).length : Int) none pos) (sel ((cutL l pos).any bigP) (.tuple [.slice .any 1 [], .int .u8 3]) (.tuple [.slice .any 1 ((cutL l pos).map plR), .int .u8 0])) (.tuple [.slice .any 1 [], .int .u8 1])) (.tuple [.slice .any 1 [], .int .u8 (checkP l)])
theorem plR_wk (n : Nat) (l : List (List Piece)) : RowsWk n (l.map plR) := by
  rw [rowsWk_map]
  exact fun p _ => ⟨wk_slice (by cases p <;> trivial) (pcs_wk n p), trivial⟩
theorem run_dCut (hB : BasE E) (hX : ExtD M) (hU : BrkE E) (hN : UntE E) (hC : CutE E) {l : Sl Piece} {pos : List Int} {ta : Tag} (hsz : l.l.length + txtN l.l ≤ 2600) (hpl : pos.length ≤ 1000) (hta : ta = .any ∨ ta = .some ∨ pos = []) (H : List AObj) :
    M.run f_docs_Cut [.slice l.tag 3 (l.l.map Piece.row), .slice ta 1 (pos.map intRow)] H = some (.ret (cutRV l.l pos), H) := by
  have htx : ∀ x ∈ l.l, x.text.length ≤ 2600 := fun x hx => by have := txtN_mem hx; omega
  have hul := unL_len l.l
  have u1 := fun H => run_dUnits M hB hX hU hN (l := l) (by omega) (fun x hx => by have := htx x hx; omega) (by omega) H
  rw [run_c M hC.docs_Cut rfl (c := c_docs_Cut) rfl, c_docs_Cut]
  cases c0 : checkP l.l == 0 with
  | false =>
    have hne : ¬ checkP l.l = 0 := by simpa using c0
    rw [unitsF, if_neg hne] at u1
    simp (maxSteps := 3000000) (maxDischargeDepth := 6) +contextual -implicitDefEqProofs only [amC M, ↓amD, Nat.reduceBEq, Nat.reduceAdd, env, fargs, q_docs_Cut, u1, aextract, List.getElem?_cons_succ, c0, cutRV, rowsWk_nil, wk_tuple, hp_self, cut_refl]
  | true =>
    have e0 : checkP l.l = 0 := by simpa using c0
    rw [unitsF, if_pos e0] at u1
    have h1 := fun k He => dcl M (ta := ta) hpl (v0 := .slice l.tag 3 (l.l.map Piece.row)) (n2 := (unL l.l).length) (by omega) (cut_refl H) k pos.length 0 He (by omega)
    simp only [kv_cons, kv_nil, Int.ofNat_zero, List.drop_zero, show prv pos 0 = none from rfl] at h1
    have r1 := fun H => run_cut M hC (l := l.l) (tg := l.tag) (ta := ta) (pos := pos) (by simp only [maxL]; omega) (fun x hx => by have := htx x hx; simp only [maxL]; omega) hta (checkP_ops e0) (by rw [sumP_eq]; omega) H
    unfold cutV at r1
    cases c1 : okA ((unL l.l).length : Int) none pos with
    | false =>
      simp only [c1, sel_false] at h1
      simp (maxSteps := 3000000) (maxDischargeDepth := 6) +contextual -implicitDefEqProofs only [amC M, ↓amD, Nat.reduceBEq, Nat.reduceAdd, env, fargs, q_docs_Cut, u1, aextract, List.getElem?_cons_succ, c0, (show ((0 : Int) == 0) = true from rfl), List.length_map, h1, c1, cutRV, hp_self]
    | true =>
      simp only [c1, sel_true] at h1
      cases c2 : (cutL l.l pos).any bigP with
      | true =>
        simp (maxSteps := 3000000) (maxDischargeDepth := 6) +contextual -implicitDefEqProofs only [amC M, ↓amD, Nat.reduceBEq, Nat.reduceAdd, env, fargs, q_docs_Cut, u1, aextract, List.getElem?_cons_succ, c0, (show ((0 : Int) == 0) = true from rfl), List.length_map, h1, c1, c2, r1, cutRV, rowsWk_nil, wk_tuple, hp_self, cut_refl]
      | false =>
        have hh := handV_drop (cut_refl H) (wk_tuple (xs := [.slice .any 1 ((cutL l.l pos).map plR), .int .u8 0]) ⟨wk_any (esz := 1) (tag := .any) (plR_wk H.length _), wk_int _ _ 0, trivial⟩)
        simp only [anyV_tuple, hp_self] at hh
        simp (maxSteps := 3000000) (maxDischargeDepth := 6) +contextual -implicitDefEqProofs only [amC M, ↓amD, Nat.reduceBEq, Nat.reduceAdd, env, fargs, q_docs_Cut, u1, aextract, List.getElem?_cons_succ, c0, (show ((0 : Int) == 0) = true from rfl), List.length_map, h1, c1, c2, r1, hh, cutRV]
        try rfl
end Go.Am
end

section
set_option linter.unusedSimpArgs false
set_option linter.unusedVariables false
set_option maxRecDepth 100000
set_option maxHeartbeats 4000000
namespace Go.Am
open Go.RowKit
attribute [local congr] dsel_congr sel_c1 slc_cong gsel_congr go_congr aft_congr aftD_congr condR_congr backR_congr inR_congr at2_congr
variable {E : REnv} (M : Mach cdec E)

/-! The specification's single and add -/
def sinP (x : Piece) : List Piece := sel (x.kind == 1) ((runesL x.text).map chrP) [x]
def sinL (l : List Piece) : List Piece := (l.map sinP).flatten
theorem sinP_len (x : Piece) : (sinP x).length ≤ x.text.length + 1 := by
  have := runesL_len x.text
  unfold sinP
  cases x.kind == 1
  · rw [sel_false]; simp
  · rw [sel_true]; simp; omega
theorem sinL_len : ∀ l : List Piece, (sinL l).length ≤ l.length + txtN l
  | [] => by simp [sinL]
  | x :: l => by
    show (sinP x ++ sinL l).length ≤ _
    have h1 := sinP_len x
    have h2 := sinL_len l
    rw [List.length_append, txtN, List.map_cons, List.sum_cons, List.length_cons]
    unfold txtN at h2; omega
theorem sg0 {H H0 : List AObj} {l : List Piece} {tg : Tag} {rs : List Nat} (hrs : rs.length ≤ maxL) {j : Int} (k : List Fra) : ∀ (n i : Nat) (o : List Piece) (He : List AObj), i + n = rs.length → o.length + n ≤ 1000000 →
    M.go a_truchmanref01_single H0 (.c l_truchmanref01_single_0 :: .lp ⟨(some [0, 3, 4, 5, 6]), [(3, 3, t_api_Piece)], false⟩ l_truchmanref01_single_0 He :: .blk 2 :: .c (.lv [0, 3, 4]) :: k) (kv [(0, .slice tg 3 (l.map Piece.row)), (3, .slice (.own H.length) 3 (o.map Piece.row)), (4, .int .i64 j), (5, .slice .any 1 (rs.map runeRow)), (6, .int .i64 i)]) (H ++ [.tok (o.length * 3) t_api_Piece]) =
      M.go a_truchmanref01_single H0 k (kv [(0, .slice tg 3 (l.map Piece.row)), (3, .slice (.own H.length) 3 ((o ++ (rs.drop i).map chrP).map Piece.row)), (4, .int .i64 j)]) (H ++ [.tok ((o ++ (rs.drop i).map chrP).length * 3) t_api_Piece])
  | 0, i, o, He, h, ho => by
    have e : i = rs.length := by omega
    subst e
    rw [go_head M l_truchmanref01_single_0.eq_1]
    simp (maxSteps := 3000000) (maxDischargeDepth := 6) +contextual -implicitDefEqProofs only [amC M, ↓amD, Nat.reduceBEq, Nat.reduceAdd, env, fargs, q_truchmanref01_single, Nat.lt_irrefl, List.drop_length, List.map_nil, List.append_nil]
  | n + 1, i, o, He, h, ho => by
    have hi : i < rs.length := by omega
    have hx : rs[i]? = some rs[i] := List.getElem?_eq_getElem hi
    have hd : (rs.drop i) = rs[i] :: rs.drop (i + 1) := List.drop_eq_getElem_cons hi
    have ap := fun L => ap_ownL (row := Piece.row) (l := o) (x := chrP rs[i]) (r := [.int .u8 1, .str (chrS rs[i]), .bool false]) (sz := 3) (bytes := 32) (e := t_api_Piece) H L rfl rfl (by simp only [chrP, Piece.row]; rfl) (by omega) (by omega)
    simp only [chrS] at ap
    have ih := fun He => sg0 (H := H) (H0 := H0) (l := l) (tg := tg) hrs (j := j) k n (i + 1) (o ++ [chrP rs[i]]) He (by omega) (by simp; omega)
    simp only [kv_cons, kv_nil] at ih
    rw [hd, List.map_cons, show o ++ chrP rs[i] :: (rs.drop (i + 1)).map chrP = o ++ [chrP rs[i]] ++ (rs.drop (i + 1)).map chrP by simp]
    rw [go_head M l_truchmanref01_single_0.eq_1]
    simp (maxSteps := 3000000) (maxDischargeDepth := 6) +contextual -implicitDefEqProofs only [amC M, ↓amD, Nat.reduceBEq, Nat.reduceAdd, env, fargs, q_truchmanref01_single, amG, AV.cell, Nat.reduceMul, Nat.reduceLeDiff, hi, hx, ap, ih, ias_row hi, qRune, rcvs_i, wrap_s hi hrs]
theorem sg1 {H H0 : List AObj} {l : List Piece} {tg : Tag} (hl : l.length ≤ 100000) (ht : TxtOk l) (k : List Fra) : ∀ (n i : Nat) (o : List Piece) (He : List AObj), i + n = l.length → o.length + (sinL (l.drop i)).length ≤ 1000000 →
    M.go a_truchmanref01_single H0 (.c l_truchmanref01_single_1 :: .lp ⟨(some [0, 3, 4]), [(3, 3, t_api_Piece)], false⟩ l_truchmanref01_single_1 He :: .blk 0 :: .c (.lv [3]) :: k) (kv [(0, .slice tg 3 (l.map Piece.row)), (3, .slice (.own H.length) 3 (o.map Piece.row)), (4, .int .i64 i)]) (H ++ [.tok (o.length * 3) t_api_Piece]) =
      M.go a_truchmanref01_single H0 k (kv [(3, .slice (.own H.length) 3 ((o ++ sinL (l.drop i)).map Piece.row))]) (H ++ [.tok ((o ++ sinL (l.drop i)).length * 3) t_api_Piece])
  | 0, i, o, He, h, ho => by
    have e : i = l.length := by omega
    subst e
    rw [go_head M l_truchmanref01_single_1.eq_1]
    simp (maxSteps := 3000000) (maxDischargeDepth := 6) +contextual -implicitDefEqProofs only [amC M, ↓amD, Nat.reduceBEq, Nat.reduceAdd, env, fargs, q_truchmanref01_single, Nat.lt_irrefl, List.drop_length, sinL, List.map_nil, List.flatten_nil, List.append_nil]
  | n + 1, i, o, He, h, ho => by
    have hi : i < l.length := by omega
    have hx : l[i]? = some l[i] := List.getElem?_eq_getElem hi
    have hd : (l.drop i) = l[i] :: l.drop (i + 1) := List.drop_eq_getElem_cons hi
    have hm : l[i] ∈ l := List.getElem_mem hi
    have htl := ht _ hm
    have hul : sinL (l.drop i) = sinP l[i] ++ sinL (l.drop (i + 1)) := by rw [hd]; rfl
    rw [hul] at ho ⊢
    rw [List.length_append] at ho
    have hwi := wrap_s (n := l.length) hi (by simp only [maxL]; omega)
    have hir := ias_row (row := Piece.row) (tag := tg) (sz := 3) (k := .i64) hi
    have hcv := rcvsr_R (s := l[i].text) htl
    have hrl := runesL_len l[i].text
    cases h1 : l[i].kind == 1 with
    | true =>
      have hs : sinP l[i] = (runesL l[i].text).map chrP := by unfold sinP; rw [h1]; rfl
      rw [hs] at ho ⊢
      rw [List.length_map] at ho
      have h0 := fun k He => sg0 M (H := H) (H0 := H0) (l := l) (tg := tg) (rs := runesL l[i].text) (by simp only [maxL]; omega) (j := (i : Int)) k (runesL l[i].text).length 0 o He (by omega) (by omega)
      have ih := fun He => sg1 (H := H) (H0 := H0) (tg := tg) hl ht k n (i + 1) (o ++ (runesL l[i].text).map chrP) He (by omega) (by rw [List.length_append, List.length_map]; omega)
      simp only [kv_cons, kv_nil, Int.ofNat_zero, List.drop_zero] at h0 ih
      rw [← List.append_assoc]
      rw [go_head M l_truchmanref01_single_1.eq_1]
      simp (maxSteps := 3000000) (maxDischargeDepth := 6) +contextual -implicitDefEqProofs only [amC M, ↓amD, Nat.reduceBEq, Nat.reduceAdd, env, fargs, q_truchmanref01_single, amG, AV.cell, Nat.reduceMul, Nat.reduceLeDiff, hi, hx, hir, qPiece, h1, hcv, h0, hwi, ih]
    | false =>
      have hs : sinP l[i] = [l[i]] := by unfold sinP; rw [h1]; rfl
      rw [hs] at ho ⊢
      have ap := fun L => ap_ownL (row := Piece.row) (l := o) (x := l[i]) (r := l[i].row) (sz := 3) (bytes := 32) (e := t_api_Piece) H L rfl rfl rfl (by simp at ho; omega) (by simp at ho; omega)
      have ih := fun He => sg1 (H := H) (H0 := H0) (tg := tg) hl ht k n (i + 1) (o ++ [l[i]]) He (by omega) (by simp at ho ⊢; omega)
      simp only [kv_cons, kv_nil] at ih
      rw [← List.append_assoc]
      rw [go_head M l_truchmanref01_single_1.eq_1]
      simp (maxSteps := 3000000) (maxDischargeDepth := 6) +contextual -implicitDefEqProofs only [amC M, ↓amD, Nat.reduceBEq, Nat.reduceAdd, env, fargs, q_truchmanref01_single, amG, AV.cell, Nat.reduceMul, Nat.reduceLeDiff, hi, hx, hir, qPiece, h1, ap, hwi, ih]
theorem run_single (hC : CutE E) {l : List Piece} {tg : Tag} (hl : l.length ≤ 100000) (ht : TxtOk l) (hu : (sinL l).length ≤ 1000000) (H : List AObj) :
    M.run f_truchmanref01_single [.slice tg 3 (l.map Piece.row)] H = some (.ret (.slice .any 3 ((sinL l).map Piece.row)), H) := by
  rw [run_c M hC.truchmanref01_single rfl (c := c_truchmanref01_single) rfl, c_truchmanref01_single]
  have h1 := fun k He => sg1 M (H := H) (H0 := H) (tg := tg) hl ht k l.length 0 [] He (by omega) (by simpa using hu)
  simp only [kv_cons, kv_nil, Int.ofNat_zero, List.drop_zero, List.nil_append, List.length_nil, Nat.zero_mul, List.map_nil] at h1
  have hh := handV_drop (cut_app H [.tok ((sinL l).length * 3) t_api_Piece]) (wk_any (esz := 3) (tag := .own H.length) (pcs_wk H.length (sinL l)))
  simp only [anyV_slice, hp_take] at hh
  simp (maxSteps := 3000000) (maxDischargeDepth := 6) +contextual -implicitDefEqProofs only [amC M, ↓amD, Nat.reduceBEq, Nat.reduceAdd, env, fargs, q_truchmanref01_single, h1, hh]
/-- A piece is added to a part. -/
theorem run_add (hC : CutE E) {H : List AObj} {v : AV} {l : List Piece} (h : PcV H v l) (hl : l.length ≤ 1000000) (ht : ∀ x ∈ l, x.text.length ≤ 1000000) {p : Piece} (hp : p.text.length ≤ 1000000) :
    ∃ w H', M.run f_truchmanref01_add [v, .agg p.row] H = some (.ret w, H') ∧ PcV H' w (putF l p) ∧ w.strip = w ∧ (∀ Q o n e r, w = .rslice Q o n e r → w = v ∨ H.length ≤ Q) ∧ H.length ≤ H'.length ∧ ∀ (i : Nat) (y : AObj), H[i]? = some y → (∀ Q, v = .rslice Q 0 l.length 3 true → i ≠ Q) → H'[i]? = some y := by
  have r1 : ∀ H, runit (some H) = some (undefA, H) := fun _ => rfl
  have gx := hp_get0 H [AObj.cells p.row t_api_Piece]
  rw [List.getElem?_cons_zero] at gx
  have hln := fun G => lenPcV (G := G) h
  have h1 : PcV (H ++ [AObj.cells p.row t_api_Piece]) v l := h.stay fun Q cs _ hQ => hp_getl hQ
  have hlen1 : (H ++ [AObj.cells p.row t_api_Piece]).length = H.length + 1 := by simp
  have more : putF l p = l ++ [p] → ∃ w G, rap true (H ++ [AObj.cells p.row t_api_Piece]) t_api_Piece 3 32 false v (.slice .full 3 [p.row]) = some (w, G) ∧ PcV G w (putF l p) ∧ w.strip = w ∧ (∀ Q o n e r, w = .rslice Q o n e r → w = v ∨ H.length ≤ Q) ∧ H.length ≤ G.length ∧ ∀ (i : Nat) (y : AObj), H[i]? = some y → (∀ Q, v = .rslice Q 0 l.length 3 true → i ≠ Q) → G[i]? = some y := fun hpf => by
    obtain ⟨G, a1, a2, a3, a4⟩ := ap_pc h1 hl p
    rw [hlen1] at a1 a2 a3 a4
    refine ⟨_, G, a1, .inr ⟨by rw [hpf]; simp, H.length + 1, by rw [hpf]; simp, by rw [hpf]; exact a2⟩, rfl, fun Q o n e r eq => .inr (by cases eq; omega), by omega, fun i y hi hne => ?_⟩
    have hlt := (List.getElem?_eq_some_iff.1 hi).1
    rw [a4 i (by omega) hne]; exact hp_getl hi
  rcases (show l = [] ∨ ∃ t x, l = t ++ [x] by
    rcases List.eq_nil_or_concat l with h | ⟨t, x, h⟩
    · exact .inl h
    · exact .inr ⟨t, x, by simpa using h⟩) with rfl | ⟨l, x, rfl⟩
  · obtain ⟨w, G, m1, m2, m3, m4, m5, m6⟩ := more rfl
    refine ⟨w, G, ?_, m2, m3, m4, m5, m6⟩
    have d0 : decide ((0 : Int) < ((0 : Nat) : Int)) = false := rfl
    rw [run_c M hC.truchmanref01_add rfl (c := c_truchmanref01_add) rfl, c_truchmanref01_add]
    cases hk : p.kind == 1 <;> simp (maxSteps := 3000000) (maxDischargeDepth := 6) +contextual -implicitDefEqProofs only [amC M, ↓amD, Nat.reduceBEq, Nat.reduceAdd, env, fargs, q_truchmanref01_add, amG, AV.cell, Nat.reduceMul, Nat.reduceLeDiff, gx, hln, hk, d0, qPiece, List.getElem?_cons_zero, m1]
  · obtain ⟨⟨Q, e1, e2⟩⟩ : Nonempty (∃ Q, v = .rslice Q 0 (l.length + 1) 3 true ∧ H[Q]? = some (.cells (pcC (l ++ [x])) t_api_Piece)) := by
      rcases h with ⟨h0, _⟩ | ⟨_, Q, h1, h2⟩
      · simp at h0
      · exact ⟨⟨Q, by simpa using h1, h2⟩⟩
    have hl2 : l.length ≤ 1000000 := by simp at hl; omega
    have hxt := ht x (by simp)
    have d1 : decide ((0 : Int) < (((l ++ [x]).length : Nat) : Int)) = true := decide_eq_true (by simp)
    have hw2 : IntKind.i64.wrap ((((l ++ [x]).length : Nat) : Int) - 1) = (l.length : Int) := by rw [wrap_i64 (by simp) (by simp; omega)]; simp
    have hiq : rias 3 v (.int .i64 (l.length : Int)) = some (.ptr Q (l.length * 3)) := by rw [e1]; exact ias_pc (by omega) _
    have hQ1 : ∀ X, (H ++ X)[Q]? = _ := fun X => hp_getl e2
    obtain ⟨q1, q2⟩ := ld_last l x
    generalize hn : (l ++ [x]).length = n at d1 hw2 hln
    cases hk : p.kind == 1 with
    | false =>
      obtain ⟨w, G, m1, m2, m3, m4, m5, m6⟩ := more (by rw [putF_snoc, hk]; rfl)
      refine ⟨w, G, ?_, m2, m3, m4, m5, by rw [← hn]; exact m6⟩
      rw [run_c M hC.truchmanref01_add rfl (c := c_truchmanref01_add) rfl, c_truchmanref01_add]
      simp (maxSteps := 3000000) (maxDischargeDepth := 6) +contextual -implicitDefEqProofs only [amC M, ↓amD, Nat.reduceBEq, Nat.reduceAdd, env, fargs, q_truchmanref01_add, amG, AV.cell, Nat.reduceMul, Nat.reduceLeDiff, gx, hln, hk, d1, qPiece, List.getElem?_cons_zero, m1]
    | true =>
      cases hx : x.kind == 1 with
      | false =>
        obtain ⟨w, G, m1, m2, m3, m4, m5, m6⟩ := more (by rw [putF_snoc, hk, hx]; rfl)
        refine ⟨w, G, ?_, m2, m3, m4, m5, by rw [← hn]; exact m6⟩
        rw [run_c M hC.truchmanref01_add rfl (c := c_truchmanref01_add) rfl, c_truchmanref01_add]
        simp (maxSteps := 3000000) (maxDischargeDepth := 6) +contextual -implicitDefEqProofs only [amC M, ↓amD, Nat.reduceBEq, Nat.reduceAdd, env, fargs, q_truchmanref01_add, amG, AV.cell, Nat.reduceMul, Nat.reduceLeDiff, gx, hln, hk, hx, d1, hw2, hiq, hQ1, q1, qPiece, List.getElem?_cons_zero, Nat.add_zero, m1]
      | true =>
        have hpf : putF (l ++ [x]) p = l ++ [{ x with text := x.text ++ p.text }] := by rw [putF_snoc, hk, hx]; rfl
        have ha := st_addO (s := x.text) (t := p.text) (by simp only [List.length_append] at *; omega)
        have hqlt := lt_get e2
        have hst : stO 1 (H ++ [AObj.cells p.row t_api_Piece]) Q (l.length * 3 + 1) [.str (x.text ++ p.text)] (some (.cells (pcC (l ++ [x])) t_api_Piece)) = some ((H ++ [AObj.cells p.row t_api_Piece]).set Q (AObj.cells (pcC (putF (l ++ [x]) p)) t_api_Piece)) := by
          rw [stO_cells (sz := 1) rfl (by rw [pcC_len]; simp; omega) rfl, st_last, hpf]
        refine ⟨v, (H ++ [AObj.cells p.row t_api_Piece]).set Q (AObj.cells (pcC (putF (l ++ [x]) p)) t_api_Piece), ?_, .inr ⟨by rw [hpf]; simp, Q, by rw [hpf, e1]; simp, List.getElem?_set_self (by simp; omega)⟩, by rw [e1]; rfl, fun Q o n e r eq => .inl rfl, by simp, fun i y hi hne => ?_⟩
        · rw [run_c M hC.truchmanref01_add rfl (c := c_truchmanref01_add) rfl, c_truchmanref01_add]
          simp (maxSteps := 3000000) (maxDischargeDepth := 6) +contextual -implicitDefEqProofs only [amC M, ↓amD, Nat.reduceBEq, Nat.reduceAdd, env, fargs, q_truchmanref01_add, amG, AV.cell, Nat.reduceMul, Nat.reduceLeDiff, gx, hln, hk, hx, d1, hw2, hiq, hQ1, q1, q2, ha, hst, qPiece, List.getElem?_cons_zero, r1, Nat.add_zero]
        · rw [List.getElem?_set_ne (fun e => hne Q (by rw [← hn, e1]; simp) e.symm)]; exact hp_getl hi
end Go.Am
end

section
set_option linter.unusedSimpArgs false
set_option linter.unusedVariables false
set_option maxRecDepth 100000
set_option maxHeartbeats 4000000
namespace Go.Am
open Go.RowKit
attribute [local congr] dsel_congr sel_c1 slc_cong gsel_congr go_congr aft_congr aftD_congr condR_congr backR_congr inR_congr at2_congr
variable {E : REnv} (M : Mach cdec E)

/-! The specification's Cut -/
structure RefW (t : Nat) (R : Nat → Prop) (H : List AObj) (S : CSt) (q : Nat) (vs : List AV) (v ov : AV) : Prop where
  rl : ∀ i, R i → i < H.length
  tr : ¬ R t
  tok : H[t]? = some (.tok (vs.length * 1) t_sl_api_Piece)
  len : vs.length = S.done.length
  dn : ∀ (i : Nat) (w : AV) (l : List Piece), vs[i]? = some w → S.done[i]? = some l → PcV H w l ∧ below q w ∧ free R w
  cr : PcV H v S.cur
  ab : above q v
  pr : free R v
  ql : q ≤ H.length
  op : OpV H ov S.opn
  oa : free R ov
structure LowR (R : Nat → Prop) (H H' : List AObj) : Prop where
  len : H.length ≤ H'.length
  low : ∀ i, R i → H'[i]? = H[i]?
theorem LowR.refl (R : Nat → Prop) (H : List AObj) : LowR R H H := ⟨Nat.le_refl _, fun _ _ => rfl⟩
theorem LowR.trans {R : Nat → Prop} {A B C : List AObj} (h : LowR R A B) (k : LowR R B C) : LowR R A C := ⟨Nat.le_trans h.len k.len, fun i hi => (k.low i hi).trans (h.low i hi)⟩
theorem RefW.turned {t : Nat} {R : Nat → Prop} {H H2 : List AObj} {S : CSt} {q : Nat} {vs : List AV} {v w ov : AV} (h : RefW t R H S q vs v ov) {cur : List Piece} (hlen : H.length ≤ H2.length) (hs : ∀ (i : Nat) (y : AObj), H[i]? = some y → (∀ Q, v = .rslice Q 0 S.cur.length 3 true → i ≠ Q) → H2[i]? = some y)
    (hw : PcV H2 w cur) (hwa : above q w) (hwf : free R w) : RefW t R H2 { S with cur := cur } q vs w ov ∧ LowR R H H2 := by
  have nq : ∀ (i : Nat) (y : AObj), H[i]? = some y → (∀ cs, y ≠ .cells cs t_api_Piece) → ∀ Q, v = .rslice Q 0 S.cur.length 3 true → i ≠ Q := fun i y hi hy Q e ei => by
    obtain ⟨ds, hd⟩ := ptr_Q h.cr e
    subst ei; rw [hi] at hd; cases hd; exact hy ds rfl
  refine ⟨⟨fun i hi => Nat.lt_of_lt_of_le (h.rl i hi) hlen, h.tr, hs t _ h.tok (nq t _ h.tok fun cs e => by cases e), h.len, fun i w' l hi hl => ?_, hw, hwa, hwf, Nat.le_trans h.ql hlen, h.op.stay fun O cs hO => hs O _ hO (nq O _ hO fun ds e => by injection e with _ e; exact t_ne3 e), h.oa⟩, ⟨hlen, fun i hi => ?_⟩⟩
  · obtain ⟨h1, h2, h3⟩ := h.dn i w' l hi hl
    refine ⟨h1.stay fun Q cs e hQ => hs Q _ hQ fun Q' e' ei => ?_, h2, h3⟩
    have a1 := h2 Q _ _ _ _ e
    have a2 := h.ab Q' _ _ _ _ e'
    omega
  · have hin := h.rl i hi
    rw [List.getElem?_eq_getElem hin]
    exact hs i _ (List.getElem?_eq_getElem hin) fun Q e ei => h.pr Q _ _ _ _ e (ei ▸ hi)
/-- A piece more in the current part. -/
theorem RefW.more {t : Nat} {R : Nat → Prop} {H : List AObj} {S : CSt} {q : Nat} {vs : List AV} {v ov : AV} (h : RefW t R H S q vs v ov) (hl : S.cur.length ≤ 1000000) (p : Piece) :
    ∃ w G, rap true H t_api_Piece 3 32 false v (.slice .full 3 [p.row]) = some (w, G) ∧ RefW t R G { S with cur := S.cur ++ [p] } q vs w ov ∧ LowR R H G := by
  obtain ⟨G, a1, a2, a3, a4⟩ := ap_pc h.cr hl p
  obtain ⟨b1, b2⟩ := h.turned (H2 := G) (cur := S.cur ++ [p]) (w := .rslice H.length 0 (S.cur.length + 1) 3 true) (by omega) (fun i y hi hne => by
    rw [a4 i (List.getElem?_eq_some_iff.1 hi).1 hne]; exact hi) (.inr ⟨by simp, H.length, by simp, a2⟩) (fun Q o n e r eq => by cases eq; exact h.ql) (fun Q o n e r eq hR => by cases eq; have := h.rl _ hR; omega)
  exact ⟨_, G, a1, b1, b2⟩
theorem rc1 {t : Nat} {R : Nat → Prop} {q : Nat} {vs : List AV} {ov v1 v9 v10 v13 v14 : AV} {H0 : List AObj} : ∀ (n : Nat) (H : List AObj) (v : AV) (S : CSt), RefW t R H S q vs v ov → n ≤ S.opn.length → S.opn.length ≤ 100000 → S.cur.length + n ≤ 1000000 →
    ∃ H' v', (∀ (k : List Fra) (He : List AObj), M.go a_truchmanref01_Cut H0 (.c l_truchmanref01_Cut_1 :: .lp ⟨(some [1, 9, 10, 11, 12, 13, 14, 16]), [], false⟩ l_truchmanref01_Cut_1 He :: .blk 4 :: .c (.lv [1, 9, 10, 11, 12, 13, 14]) :: k) (kv [(1, v1), (9, v9), (10, v10), (11, v), (12, ov), (13, v13), (14, v14), (16, .int .i64 ((n : Int) - 1))]) H = M.go a_truchmanref01_Cut H0 k (kv [(1, v1), (9, v9), (10, v10), (11, v'), (12, ov), (13, v13), (14, v14)]) H') ∧ RefW t R H' { S with cur := S.cur ++ (S.opn.take n).reverse.map clsP } q vs v' ov ∧ LowR R H H'
  | 0, H, v, S, h, hn, ho, hcu => by
    refine ⟨H, v, fun k He => ?_, by simpa using h, LowR.refl _ _⟩
    have h0 : decide ((0 : Int) ≤ ((0 : Nat) : Int) - 1) = false := rfl
    rw [go_head M l_truchmanref01_Cut_1.eq_1]
    simp (maxSteps := 3000000) (maxDischargeDepth := 6) +contextual -implicitDefEqProofs only [amC M, ↓amD, Nat.reduceBEq, Nat.reduceAdd, env, fargs, q_truchmanref01_Cut, h0]
  | n + 1, H, v, S, h, hn, ho, hcu => by
    have hlt : n < S.opn.length := by omega
    have hx : S.opn[n]? = some S.opn[n] := List.getElem?_eq_getElem hlt
    obtain ⟨w, G, a1, a2, a3⟩ := h.more (by omega) (clsP S.opn[n])
    obtain ⟨H2, v2, i1, i2, i3⟩ := rc1 (v1 := v1) (v9 := v9) (v10 := v10) (v13 := v13) (v14 := v14) (H0 := H0) n G w _ a2 (by dsimp only; omega) ho (by simp; omega)
    refine ⟨H2, v2, fun k He => ?_, ?_, a3.trans i3⟩
    · rw [← i1 k G]
      obtain ⟨O, cs, o1, o2, o3⟩ := op_get h.op hx
      have e1 : ((n + 1 : Nat) : Int) - 1 = (n : Int) := by omega
      have h0 : decide ((0 : Int) ≤ (n : Int)) = true := decide_eq_true (by omega)
      have hw1 : IntKind.i64.wrap ((n : Int) - 1) = (n : Int) - 1 := wrap_i64 (by omega) (by omega)
      have a1' : rap true H t_api_Piece 3 32 false v (.slice .full 3 [[.int .u8 3, .str S.opn[n], .bool true]]) = some (w, G) := a1
      rw [e1]
      rw [go_head M l_truchmanref01_Cut_1.eq_1]
      simp (maxSteps := 3000000) (maxDischargeDepth := 6) +contextual -implicitDefEqProofs only [amC M, ↓amD, Nat.reduceBEq, Nat.reduceAdd, env, fargs, q_truchmanref01_Cut, amG, AV.cell, Nat.reduceMul, Nat.reduceLeDiff, h0, hw1, o1, o2, o3, a1']
    · have e : (S.opn.take (n + 1)).reverse.map clsP = clsP S.opn[n] :: (S.opn.take n).reverse.map clsP := by rw [List.take_add_one, hx]; rw [Option.toList_some, List.reverse_append, List.map_append]; rfl
      rw [e]
      simpa using i2
theorem rc2 {t : Nat} {R : Nat → Prop} {q : Nat} {vs : List AV} {ov v1 v9 v10 v13 v14 : AV} {H0 : List AObj} : ∀ (n i : Nat) (H : List AObj) (v : AV) (S : CSt), RefW t R H S q vs v ov → i + n = S.opn.length → S.opn.length ≤ 100000 → S.cur.length + n ≤ 1000000 →
    ∃ H' v', (∀ (k : List Fra) (He : List AObj), M.go a_truchmanref01_Cut H0 (.c l_truchmanref01_Cut_2 :: .lp ⟨(some [1, 9, 10, 11, 12, 13, 14, 17]), [], false⟩ l_truchmanref01_Cut_2 He :: .blk 6 :: .c (.lv [1, 9, 10, 11, 12, 13, 14]) :: k) (kv [(1, v1), (9, v9), (10, v10), (11, v), (12, ov), (13, v13), (14, v14), (17, .int .i64 i)]) H = M.go a_truchmanref01_Cut H0 k (kv [(1, v1), (9, v9), (10, v10), (11, v'), (12, ov), (13, v13), (14, v14)]) H') ∧ RefW t R H' { S with cur := S.cur ++ (S.opn.drop i).map opnP } q vs v' ov ∧ LowR R H H'
  | 0, i, H, v, S, h, hn, ho, hcu => by
    have e : i = S.opn.length := by omega
    subst e
    refine ⟨H, v, fun k He => ?_, by rw [List.drop_length]; simpa using h, LowR.refl _ _⟩
    have hl := fun G => len_op (G := G) h.op
    rw [go_head M l_truchmanref01_Cut_2.eq_1]
    simp (maxSteps := 3000000) (maxDischargeDepth := 6) +contextual -implicitDefEqProofs only [amC M, ↓amD, Nat.reduceBEq, Nat.reduceAdd, env, fargs, q_truchmanref01_Cut, hl, Nat.lt_irrefl]
  | n + 1, i, H, v, S, h, hn, ho, hcu => by
    have hlt : i < S.opn.length := by omega
    have hx : S.opn[i]? = some S.opn[i] := List.getElem?_eq_getElem hlt
    obtain ⟨w, G, a1, a2, a3⟩ := h.more (by omega) (opnP S.opn[i])
    obtain ⟨H2, v2, i1, i2, i3⟩ := rc2 (v1 := v1) (v9 := v9) (v10 := v10) (v13 := v13) (v14 := v14) (H0 := H0) n (i + 1) G w _ a2 (by dsimp only; omega) ho (by simp; omega)
    refine ⟨H2, v2, fun k He => ?_, ?_, a3.trans i3⟩
    · rw [← i1 k G]
      have hl := fun G => len_op (G := G) h.op
      obtain ⟨O, cs, o1, o2, o3⟩ := op_get h.op hx
      have hw1 := wrap_s (n := S.opn.length) hlt (by simp only [maxL]; omega)
      have a1' : rap true H t_api_Piece 3 32 false v (.slice .full 3 [[.int .u8 2, .str S.opn[i], .bool true]]) = some (w, G) := a1
      rw [go_head M l_truchmanref01_Cut_2.eq_1]
      simp (maxSteps := 3000000) (maxDischargeDepth := 6) +contextual -implicitDefEqProofs only [amC M, ↓amD, Nat.reduceBEq, Nat.reduceAdd, env, fargs, q_truchmanref01_Cut, amG, AV.cell, Nat.reduceMul, Nat.reduceLeDiff, hl, hlt, hw1, o1, o2, o3, a1']
    · rw [List.drop_eq_getElem_cons hlt, List.map_cons]
      simpa using i2
theorem strip_PcV {H : List AObj} {v : AV} {l : List Piece} (h : PcV H v l) : v.strip = v := by
  rcases h with ⟨rfl, rfl⟩ | ⟨_, Q, rfl, _⟩ <;> rfl
/-- A part is done. -/
theorem RefW.push {t : Nat} {R : Nat → Prop} {H : List AObj} {S : CSt} {q : Nat} {vs : List AV} {v ov : AV} (h : RefW t R H S q vs v ov) (hd : S.done.length ≤ 1000000) :
    rap false H t_sl_api_Piece 1 24 false (.slice (.own t) 1 (vs.map fnRow)) (.slice .full 1 [[v]]) = some (.slice (.own t) 1 ((vs ++ [v]).map fnRow), H.set t (.tok ((vs ++ [v]).length * 1) t_sl_api_Piece)) ∧
      RefW t R (H.set t (.tok ((vs ++ [v]).length * 1) t_sl_api_Piece)) { S with done := S.done ++ [S.cur], cur := [] } H.length (vs ++ [v]) (.slice .nil 3 []) ov ∧ LowR R H (H.set t (.tok ((vs ++ [v]).length * 1) t_sl_api_Piece)) := by
  have htl := (List.getElem?_eq_some_iff.1 h.tok).1
  have hs : ∀ {i : Nat} {cs : List AV} {T : TypeId}, H[i]? = some (.cells cs T) → (H.set t (.tok ((vs ++ [v]).length * 1) t_sl_api_Piece))[i]? = some (.cells cs T) := fun {i cs T} hi => by
    rw [List.getElem?_set_ne (fun e => by subst e; have := h.tok; rw [hi] at this; cases this)]; exact hi
  have hvs := h.len
  refine ⟨ap_at (row := fnRow) (l := vs) (x := v) (r := [v]) (sz := 1) (bytes := 24) h.tok rfl (by simp [(cell_PcV h.cr).1]) (by simp [strip_PcV h.cr, fnRow]) (by omega) (by omega), ⟨fun i hi => by simpa using h.rl i hi, h.tr, List.getElem?_set_self htl, by simp [hvs], fun i w l hi hl => ?_, .inl ⟨rfl, rfl⟩, fun Q o n e r eq => (by cases eq), fun Q o n e r eq => (by cases eq), by simp, h.op.stay fun O cs hO => hs hO, h.oa⟩, ⟨by simp, fun i hi => List.getElem?_set_ne (fun e : t = i => h.tr (by rw [e]; exact hi))⟩⟩
  by_cases hlt : i < vs.length
  · rw [List.getElem?_append_left hlt] at hi
    rw [List.getElem?_append_left (by omega)] at hl
    obtain ⟨d1, d2, d3⟩ := h.dn i w l hi hl
    exact ⟨d1.stay fun Q cs _ hQ => hs hQ, fun Q o n e r eq => Nat.lt_of_lt_of_le (d2 Q o n e r eq) h.ql, d3⟩
  · have hi2 : i = vs.length := by
      have := (List.getElem?_eq_some_iff.1 hi).1
      simp at this; omega
    subst hi2
    rw [List.getElem?_append_right (Nat.le_refl _), Nat.sub_self, List.getElem?_cons_zero] at hi
    rw [List.getElem?_append_right (by omega), show vs.length - S.done.length = 0 by omega, List.getElem?_cons_zero] at hl
    cases hi; cases hl
    refine ⟨h.cr.stay fun Q cs _ hQ => hs hQ, fun Q o n e r eq => ?_, h.pr⟩
    rcases h.cr with ⟨_, hv⟩ | ⟨_, Q', hv, hQ⟩
    · rw [hv] at eq; cases eq
    · rw [hv] at eq; cases eq; exact lt_get hQ
end Go.Am
end

section
set_option linter.unusedSimpArgs false
set_option linter.unusedVariables false
set_option maxRecDepth 100000
set_option maxHeartbeats 4000000
namespace Go.Am
open Go.RowKit
attribute [local congr] dsel_congr sel_c1 slc_cong gsel_congr go_congr aft_congr aftD_congr condR_congr backR_congr inR_congr at2_congr
variable {E : REnv} (M : Mach cdec E)

/-! The specification's Cut: its loop -/
theorem RefW.add (hC : CutE E) {t : Nat} {R : Nat → Prop} {H : List AObj} {S : CSt} {q : Nat} {vs : List AV} {v ov : AV} (h : RefW t R H S q vs v ov) (hl : S.cur.length ≤ 1000000) (ht : ∀ x ∈ S.cur, x.text.length ≤ 1000000) {p : Piece} (hp : p.text.length ≤ 1000000) :
    ∃ w G, M.run f_truchmanref01_add [v, .agg p.row] H = some (.ret w, G) ∧ RefW t R G { S with cur := putF S.cur p } q vs w ov ∧ LowR R H G := by
  obtain ⟨w, G, a1, a2, a3, a4, a5, a6⟩ := run_add M hC h.cr hl ht hp
  have := h.turned (H2 := G) (cur := putF S.cur p) (w := w) a5 a6 a2 (fun Q o n e r eq => by
    rcases a4 Q o n e r eq with e1 | e1
    · exact h.ab Q o n e r (e1 ▸ eq)
    · have := h.ql; omega) (fun Q o n e r eq hR => by
    rcases a4 Q o n e r eq with e1 | e1
    · exact h.pr Q o n e r (e1 ▸ eq) hR
    · have := h.rl _ hR; omega)
  exact ⟨w, G, a1, this.1, this.2⟩
theorem RefW.open {t : Nat} {R : Nat → Prop} {H : List AObj} {S : CSt} {q : Nat} {vs : List AV} {v ov : AV} (h : RefW t R H S q vs v ov) (hl : S.opn.length ≤ 100000) (s : Str) :
    ∃ w G, rap true H t_string 1 16 false ov (.slice .full 1 [[.str s]]) = some (w, G) ∧ RefW t R G { S with opn := S.opn ++ [s] } q vs v w ∧ LowR R H G := by
  obtain ⟨w, G, a1, a2, a3, a4, a5, a6, a7⟩ := ap_op h.op h.oa h.rl (by omega) s
  have tk : G[t]? = some (.tok (vs.length * 1) t_sl_api_Piece) := by
    have htok := h.tok
    have : ∀ O, ov ≠ .rslice O 0 S.opn.length 1 true ∨ t ≠ O := fun O => by
      rcases h.op with ⟨_, e⟩ | ⟨O', junk, e, hO⟩
      · left; rw [e]; intro h; cases h
      · by_cases ht : t = O
        · left; rw [e]; intro h2; cases h2; rw [ht, hO] at htok; cases htok
        · exact .inr ht
    rcases h.op with ⟨e0, e⟩ | ⟨O', junk, e, hO⟩
    · rw [e] at a1
      simp only [rap, rappM, rsrc, or_true, if_true, rowsOk_str] at a1
      rw [if_pos (by simp)] at a1
      cases a1; exact hp_getl htok
    · rw [e] at a1
      have hlen : S.opn.length * 1 ≤ (strC S.opn ++ junk).length := by rw [List.length_append, strC_len]; omega
      simp only [rap, rappM, rsrc, or_true, if_true, rowsOk_str, hO] at a1
      rw [if_pos ⟨trivial, trivial, hlen, by simp; omega, by simp; omega⟩] at a1
      cases a1
      have htl := (List.getElem?_eq_some_iff.1 htok).1
      rw [List.getElem?_append_left (by simp; omega), List.getElem?_set_ne (fun e => by subst e; rw [hO] at htok; cases htok)]; exact htok
  exact ⟨w, G, a1, ⟨fun i hi => by have := h.rl i hi; have := a6.len; omega, h.tr, tk, h.len, fun i w' l hi hl => ⟨(h.dn i w' l hi hl).1.stay fun Q cs _ hQ => a7 Q _ _ hQ t_ne3.symm, (h.dn i w' l hi hl).2⟩, h.cr.stay fun Q cs _ hQ => a7 Q _ _ hQ t_ne3.symm, h.ab, h.pr, by have := h.ql; have := a6.len; omega, a2, a3⟩, ⟨a6.len, a6.low⟩⟩
theorem RefW.shut {t : Nat} {R : Nat → Prop} {H : List AObj} {S : CSt} {q : Nat} {vs : List AV} {v ov : AV} (h : RefW t R H S q vs v ov) {l : List Str} {s : Str} (hls : S.opn = l ++ [s]) :
    ∃ w, rsll 1 ov none (some (.int .i64 (l.length : Int))) none = some w ∧ RefW t R H { S with opn := l } q vs v w := by
  have ho := h.op
  rw [hls] at ho
  obtain ⟨w, a1, a2, a3, _, _⟩ := pop_op ho h.oa
  exact ⟨w, a1, ⟨h.rl, h.tr, h.tok, h.len, h.dn, h.cr, h.ab, h.pr, h.ql, a2, a3⟩⟩
def refC (pos : List Int) (S : CSt) (x : Piece) : Bool := decide (S.done.length < pos.length) && (((S.place : Int) == pos.getD S.done.length 0) && !(x.kind == 3))
def refT (S : CSt) : CSt := { S with done := S.done ++ [S.cur ++ S.opn.reverse.map clsP], cur := S.opn.map opnP }
def refN (S1 : CSt) (x : Piece) : CSt := { S1 with opn := opnF S1.opn x, place := sel ((x.kind == 1) || (x.kind == 5)) (S1.place + 1) S1.place, cur := putF S1.cur x }
def refS (pos : List Int) (S : CSt) (x : Piece) : CSt := refN (sel (refC pos S x) (refT S) S) x
theorem refT_bm {m : Nat} {S : CSt} (h : CBm m S) : CBm (m + 1) (refT S) := by
  have := turn_bm h
  exact ⟨this.opn, this.opt, this.done, this.cur, this.txt, this.place⟩
theorem refN_bm {m w : Nat} {S : CSt} (h1 : CBm m S) {p : Piece} (hp : p.text.length ≤ w) : CBm (m + w + 1) (refN S p) := by
  have ho : (opnF S.opn p).length ≤ S.opn.length + 1 ∧ ∀ s ∈ opnF S.opn p, s.length ≤ m + w := by
    unfold opnF
    cases p.kind == 2 with
    | true =>
      refine ⟨by simp [sel_true], fun s hs => ?_⟩
      rw [sel_true] at hs
      rcases List.mem_append.1 hs with hs | hs
      · have := h1.opt s hs; omega
      · rw [List.mem_singleton] at hs; subst hs; omega
    | false =>
      cases p.kind == 3 with
      | true => exact ⟨by simp [sel_true, sel_false]; omega, fun s hs => by rw [sel_false, sel_true] at hs; have := h1.opt s (List.dropLast_subset _ hs); omega⟩
      | false => exact ⟨by simp [sel_false], fun s hs => by rw [sel_false, sel_false] at hs; have := h1.opt s hs; omega⟩
  have hpl : (sel ((p.kind == 1) || (p.kind == 5)) (S.place + 1) S.place) ≤ S.place + 1 := by cases (p.kind == 1) || (p.kind == 5) <;> simp [sel_true, sel_false]
  refine ⟨by have := h1.opn; have := ho.1; simp only [refN]; omega, fun s hs => by have := ho.2 s hs; omega, by have := h1.done; simp only [refN]; omega, by have := h1.cur; have := putF_len S.cur p; simp only [refN]; omega, fun x hx => ?_, by have := h1.place; simp only [refN]; omega⟩
  have := putF_txt h1.txt hp x hx; omega
theorem refS_bm {m w : Nat} {S : CSt} (h : CBm m S) (pos : List Int) {p : Piece} (hp : p.text.length ≤ w) : CBm (m + w + 2) (refS pos S p) := by
  have : CBm (m + 1) (sel (refC pos S p) (refT S) S) := by
    cases refC pos S p with
    | true => exact refT_bm h
    | false => exact h.mono (by omega)
  exact (refN_bm this hp).mono (by omega)
end Go.Am
end

