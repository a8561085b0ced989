import Derived.Test.YtaomolffnolpdaaGreatDoorA4
import Derived.RangeFuncNested
import Derived.RangeFuncBound
import Derived.RangeFuncCalls
import Derived.RangeFuncLeaves
import Derived.Shelf.Abstract
import Derived.WalkKit
import Derived.OwnWalkIn
import Derived.TacticsInMore
import Derived.LoopNIn
import Derived.LoopIn
import Derived.Test.YtaomolffnolpdaaGreatDoorChecked
import Derived.Lib.MapLaws
import Derived.Stop.FmtQuoteTie
import Derived.Lib.TrimUEq
import Derived.KernelRfl
import Derived.Lib.TrimAscii
/-
  Part 5 of the tool: an abstract machine over the model, proved sound, and what it says of the functions that the law reaches. Condition: none but those that each theorem names.
-/
set_option linter.unusedVariables false
set_option linter.unusedSimpArgs false
section
namespace Go.Am
open Go.RowKit Go.Shelf Go.Proofs
attribute [local go_sem] Oper.semAt_some
set_option maxHeartbeats 2000000
/-- A range over a string goes on. -/
theorem run_next_at {P : Program} {w : World} {ib : Nat} {s : ByteArray} {pos : Nat} (ty : TypeId) (h : w.heap[ib]? = some (.stringIter s pos)) (hp : pos < s.size) :
    (Instr.next (.pointer (some ⟨ib, 0, none⟩)) true ty).run P w = .ok (.tuple #[.bool true, .int .i64 pos, .int .i32 (Utf8.decode s pos).1]) (w.putObj ib (.stringIter s (pos + (Utf8.decode s pos).2))) := by
  have hg : (getObj ib).run P w = .ok (.stringIter s pos) w := by simp [getObj, Sem.run, h]
  have hlt : ib < w.heap.size := (Array.getElem?_eq_some_iff.1 h).1
  have hso : ∀ p, (setObj ib (.stringIter s p)).run P w = .ok () (w.putObj ib (.stringIter s p)) := fun p => by
    unfold setObj
    simp only [Sem.run, World.putObj, h]
  simp only [Instr.next, Sem.run_bind, hg, Result.andThen_ok]
  rw [if_pos hp]
  simp only [Sem.run_bind, hso, Result.andThen_ok, Sem.run_pure]
  rfl
theorem run_next_no {P : Program} {w : World} {ib : Nat} {s : ByteArray} {pos : Nat} (ty : TypeId) (h : w.heap[ib]? = some (.stringIter s pos)) (hp : ¬ pos < s.size) :
    (Instr.next (.pointer (some ⟨ib, 0, none⟩)) true ty).run P w = .ok (.tuple #[.bool false]) w := by
  have hg : (getObj ib).run P w = .ok (.stringIter s pos) w := by simp [getObj, Sem.run, h]
  simp only [Instr.next, Sem.run_bind, hg, Result.andThen_ok]
  rw [if_neg hp]
  rfl
/-- How much of a string an iterator has left. -/
def leftI (w : World) (b : Nat) : Nat :=
  match w.heap[b]? with
  | some (.stringIter s p) => s.size - p
  | _ => 0
theorem leftI_eq {w : World} {b : Nat} {s : ByteArray} {p : Nat} (h : w.heap[b]? = some (.stringIter s p)) : leftI w b = s.size - p := by
  unfold leftI; rw [h]
abbrev unitR (n : Int) : Array Value := #[.agg #[.int .i32 n, .bool false]]
def pieceU (p : Int × ByteArray × Bool) : List (Array Value) := if p.1 = 5 then [#[.agg #[.int .i32 0, .bool true]]] else if p.1 = 1 then (runesG p.2.1 p.2.1.size 0).map unitR else []
def piecesU : List (Int × ByteArray × Bool) → List (Array Value)
  | [] => []
  | p :: l => pieceU p ++ piecesU l
theorem drop_next {α : Type} {xs r : List α} {x : α} {i : Nat} (h : xs.drop i = x :: r) : xs[i]? = some x ∧ xs.drop (i + 1) = r := by
  constructor
  · have := congrArg List.head? h
    simpa [List.head?_drop] using this
  · rw [← List.drop_drop, h]; rfl
theorem decode_pos (s : ByteArray) (p : Nat) (_ : p < s.size) : 1 ≤ (Utf8.decode s p).2 := by
  simp only [Utf8.decode]
  repeat' split
  all_goals simp

theorem t_units (l cb : Nat) (W : World) (B : Nat) (J : Nat → World → Prop) (Jx KO : World → Prop) (a : Option Addr) (cap : Nat) (ps : List (Int × ByteArray × Bool)) (hmx : ps.length ≤ 9223372036854775807)
    (hx : W.cell? ⟨cb, 0, none⟩ = some (.slice a ps.length cap))
    (hcell : ∀ W' k p, KO W' → ps[k]? = some p → ∃ b o, a = some ⟨b, o, none⟩ ∧ W'.cell? ⟨b, o + k * 3, none⟩ = some (.int .u8 p.1) ∧ W'.cell? ⟨b, o + k * 3 + 1, none⟩ = some (.string p.2.1) ∧ W'.cell? ⟨b, o + k * 3 + 2, none⟩ = some (.bool p.2.2))
    (hKO : Stb B KO) (hJ : ∀ i, Stb B (J i)) (hsz : ∀ i W', J i W' → B ≤ W'.heap.size)
    (hY : ∀ i x W1, (piecesU ps)[i]? = some x → J i W1 → YieldAt Fence.wide 0 Tryz.prog l x W1 fun e W' => (e = .returned (.bool true) ∧ J (i + 1) W' ∧ KeptI B W1 W' ∧ KO W') ∨ (e = .returned (.bool false) ∧ Jx W'))
    (h0 : J 0 W) (hk0 : KO W) :
    CallsIn Fence.wide 0 Tryz.prog 94 #[.func (.yield l) #[] #[], .pointer (some ⟨cb, 0, none⟩)] W fun e W' => (∃ v, e = .returned v) ∧ (J (piecesU ps).length W' ∨ Jx W') := by
  refine callsIn_of_wp Tryz.func94 rfl trivial ?_ rfl
  simp only [Tryz.ntmps94, List.size_toArray, List.length_cons, List.length_nil, Nat.reduceAdd, Nat.reduceSub, Array.replicate_succ, Array.replicate_zero, List.push_toArray, List.append_toArray, List.nil_append, List.cons_append]
  gi_wp2
  refine wpIn_scope_ghost (fun _ _ _ _ => False) 0 ?_ (fun _ _ _ _ h => h.elim)
  refine wpIn_seq (wpIn_label ?_)
  gi_wp2
  gi_loopw [9] (fun p wr => ∃ k i : Nat, p = .int .i64 k ∧ k ≤ ps.length ∧ (piecesU ps).drop i = piecesU (ps.drop k) ∧ i + (piecesU (ps.drop k)).length = (piecesU ps).length ∧ J i wr ∧ KO wr)
    (fun p _ => ps.length - (intOf p).toNat)
  case atStart =>
    exact ⟨0, 0, rfl, Nat.zero_le _, rfl, by simp, h0, hk0⟩
  case round =>
    obtain ⟨k, i, rfl, hk, hd, hi, hJk, hKk⟩ := hrel
    by_cases hlt : k < ps.length
    · obtain ⟨⟨kd, st, cr⟩, hp⟩ : ∃ p, ps[k]? = some p := ⟨_, List.getElem?_eq_getElem hlt⟩
      obtain ⟨b, o, rfl, c0, c1, c2⟩ := hcell wr k _ hKk hp
      have hdk : ps.drop k = (kd, st, cr) :: ps.drop (k + 1) := by
        rw [List.drop_eq_getElem_cons hlt]
        rw [List.getElem?_eq_getElem hlt] at hp
        rw [Option.some.inj hp]
      rw [hdk, piecesU] at hd hi
      simp only at c0 c1 c2
      by_cases h5 : kd = 5
      · subst h5
        have e5 : pieceU (5, st, cr) = [#[.agg #[.int .i32 0, .bool true]]] := rfl
        rw [e5] at hd hi
        obtain ⟨hxi, hdi⟩ := drop_next (by simpa using hd)
        obtain ⟨fn, tmps, assign, body, hy, hR⟩ := hY i _ (wr.alloc (.cells #[.int .u8 5, .string st, .bool cr] 44)) hxi ((hJ _).alloc _ hJk)
        gi_wp2
        refine ⟨rfl, hR.mono ?_⟩
        rintro e W' (⟨rfl, hJ2, _, hK2⟩ | ⟨rfl, hJx2⟩)
        · gi_wp2
          exact ⟨⟨k + 1, i + 1, by simp, by omega, hdi, by simp at hi ⊢; omega, hJ2, hK2⟩, by simp [intOf]; omega⟩
        · gi_wp2
          go_end0
          exact ⟨⟨_, rfl⟩, .inr hJx2⟩
      · by_cases h1 : kd = 1
        · subst h1
          have e1 : pieceU (1, st, cr) = (runesG st st.size 0).map unitR := rfl
          rw [e1] at hd hi
          gi_wp2
          have hBw := hsz _ _ hJk
          obtain ⟨ib, hib⟩ : ∃ ib, ib = wr.heap.size + 1 := ⟨_, rfl⟩
          have hst : ((wr.alloc (.cells #[.int .u8 1, .string st, .bool cr] 44)).iter st 0).heap[ib]? = some (.stringIter st 0) := by
            have := World.iter_heap (wr.alloc (.cells #[.int .u8 1, .string st, .bool cr] 44)) st 0
            rw [hib]
            simpa using this
          rw [← hib]
          have hBi : B ≤ ib := by omega
          clear hib
          gi_loopw [26] (fun _ w2 => ∃ (pos fuel j : Nat), w2.heap[ib]? = some (.stringIter st pos) ∧ st.size - pos ≤ fuel ∧ (piecesU ps).drop j = (runesG st fuel pos).map unitR ++ piecesU (ps.drop (k + 1)) ∧
              j + ((runesG st fuel pos).map unitR ++ piecesU (ps.drop (k + 1))).length = (piecesU ps).length ∧ J j w2 ∧ KO w2)
            (fun _ w2 => leftI w2 ib)
          case atStart =>
            exact ⟨0, st.size, i, hst, by omega, hd, hi, (hJ _).alloc _ ((hJ _).alloc _ hJk), hKO.alloc _ (hKO.alloc _ hKk)⟩
          case round =>
            obtain ⟨pos, fuel, j, hit, hfu, hdj, hij, hJj, hKj⟩ := hrel
            by_cases hpl : pos < st.size
            · have hnx := fun ty => run_next_at (P := Tryz.prog) ty hit hpl
              obtain ⟨fuel, rfl⟩ : ∃ f, fuel = f + 1 := ⟨fuel - 1, by omega⟩
              have hdp := decode_pos st pos hpl
              rw [show runesG st (fuel + 1) pos = Int.ofNat (Utf8.decode st pos).1 :: runesG st fuel (pos + (Utf8.decode st pos).2) by rw [runesG, if_pos hpl], List.map_cons, List.cons_append] at hdj hij
              obtain ⟨hxj, hdj2⟩ := drop_next hdj
              obtain ⟨fn, tmps, assign, body, hy, hR⟩ := hY j #[.agg #[.int .i32 ((Utf8.decode st pos).1 : Nat), .bool false]] (wr.putObj ib (.stringIter st (pos + (Utf8.decode st pos).2))) hxj ((hJ j).putObj _ hJj hBi hit rfl)
              have hlt2 : ib < wr.heap.size := (Array.getElem?_eq_some_iff.1 hit).1
              have hsame := World.putObj_heap_same (w := wr) (o := Obj.stringIter st (pos + (Utf8.decode st pos).2)) hlt2
              gi_wp2
              refine ⟨rfl, hR.mono ?_⟩
              rintro e W' (⟨rfl, hJ2, hI2, hK2⟩ | ⟨rfl, hJx2⟩)
              · have hW := hI2 ib _ _ hBi hsame
                gi_wp2
                exact ⟨⟨_, fuel, j + 1, hW, by omega, hdj2, by simp only [List.length_cons] at hij; omega, hJ2, hK2⟩, by rw [leftI_eq hW, leftI_eq hit]; omega⟩
              · gi_wp2
                go_end0
                exact ⟨⟨_, rfl⟩, .inr hJx2⟩
            · have hnx := fun ty => run_next_no (P := Tryz.prog) ty hit hpl
              have e0 : runesG st fuel pos = [] := by
                cases fuel with
                | zero => rfl
                | succ f => rw [runesG, if_neg hpl]
              rw [e0] at hdj hij
              gi_wp2
              exact ⟨⟨k + 1, j, by simp, by omega, hdj, by simp at hij ⊢; omega, hJj, hKj⟩, by simp [intOf]; omega⟩
        · have e0 : pieceU (kd, st, cr) = [] := by unfold pieceU; rw [if_neg h5, if_neg h1]
          rw [e0] at hd hi
          gi_wp2
          exact ⟨⟨k + 1, i, by simp, by omega, hd, by simp at hi ⊢; omega, (hJ _).alloc _ hJk, hKO.alloc _ hKk⟩, by simp [intOf]; omega⟩
    · have ek : k = ps.length := by omega
      subst ek
      gi_wp2
      go_end0
      have : i = (piecesU ps).length := by simpa [piecesU] using hi
      exact ⟨⟨_, rfl⟩, .inl (by rw [← this]; exact hJk)⟩

/-! What docs.units hands over, as the machine has it -/
def pc1 : List AV → Int × ByteArray × Bool
  | [.int .u8 k, .str s, .bool c] => (k, ⟨s.toArray⟩, c)
  | _ => (0, ⟨#[]⟩, false)
def pcs (rows : List (List AV)) : List (Int × ByteArray × Bool) := rows.map pc1
theorem pcs_len (rows : List (List AV)) : (pcs rows).length = rows.length := List.length_map ..
theorem pcs_get : ∀ {rows : List (List AV)} {xs : List (List AV)}, unitRows rows = some xs → piecesU (pcs rows) = xs.map (fun x => (x.map concV).toArray) ∧ (∀ x ∈ xs, x.length = 1 ∧ ∀ v ∈ x, plainV v = true) ∧
    ∀ (i : Nat) (p : Int × ByteArray × Bool), (pcs rows)[i]? = some p → ∃ s : List UInt8, rows[i]? = some [.int .u8 p.1, .str s, .bool p.2.2] ∧ p.2.1 = ⟨s.toArray⟩
  | [], xs, h => by
    cases h
    exact ⟨rfl, fun x hx => by simp at hx, fun i p h => by simp [pcs] at h⟩
  | r :: rows, xs, h => by
    unfold unitRows at h
    split at h
    · rename_i heq; cases heq
    · rename_i k s c l heq
      cases heq
      split at h
      · rename_i r' hr
        obtain ⟨h1, h2, h3⟩ := pcs_get hr
        have hget : ∀ (i : Nat) (p : Int × ByteArray × Bool), (pcs ([.int .u8 k, .str s, .bool c] :: rows))[i]? = some p → ∃ s' : List UInt8, ([AV.int .u8 k, .str s, .bool c] :: rows)[i]? = some [.int .u8 p.1, .str s', .bool p.2.2] ∧ p.2.1 = ⟨s'.toArray⟩ := fun i p hp => by
          cases i with
          | zero => simp [pcs, pc1] at hp; subst hp; exact ⟨s, rfl, rfl⟩
          | succ i => exact h3 i p (by simpa [pcs] using hp)
        have hu : piecesU (pcs ([.int .u8 k, .str s, .bool c] :: rows)) = pieceU (k, ⟨s.toArray⟩, c) ++ piecesU (pcs rows) := rfl
        by_cases h5 : k = 5
        · rw [if_pos h5] at h
          cases h
          refine ⟨?_, ?_, hget⟩
          · rw [hu, h1, h5]; rfl
          · intro x hx
            rcases List.mem_cons.1 hx with rfl | hx
            · exact ⟨rfl, fun v hv => by simp at hv; subst hv; rfl⟩
            · exact h2 x hx
        · rw [if_neg h5] at h
          by_cases h1' : k = 1
          · rw [if_pos h1'] at h
            cases h
            refine ⟨?_, ?_, hget⟩
            · rw [hu, h1, h1', List.map_append, List.map_map]
              congr 1
            · intro x hx
              rcases List.mem_append.1 hx with hx | hx
              · obtain ⟨n, _, rfl⟩ := List.mem_map.1 hx
                exact ⟨rfl, fun v hv => by simp at hv; subst hv; rfl⟩
              · exact h2 x hx
          · rw [if_neg h1'] at h
            cases h
            refine ⟨?_, h2, hget⟩
            rw [hu, h1]
            unfold pieceU
            rw [if_neg h5, if_neg h1']
            rfl
      · cases h
    · cases h
def noIts (H : List AObj) : List AObj := H.map fun x => match x with
  | .siter _ _ => .dead
  | x => x
theorem noIts_get {H : List AObj} {i : Nat} {x : AObj} (h : (noIts H)[i]? = some x) : (x = .dead ∨ H[i]? = some x) ∧ ∀ s p, x ≠ .siter s p := by
  unfold noIts at h
  rw [List.getElem?_map] at h
  cases hi : H[i]? with
  | none => rw [hi] at h; cases h
  | some y =>
    rw [hi] at h
    simp only [Option.map_some, Option.some.injEq] at h
    cases y <;> subst h <;> simp
theorem noIts_tok {H : List AObj} {t fr : Nat} {T : TypeId} (h : H[t]? = some (.tok fr T)) : (noIts H)[t]? = some (.tok fr T) := by
  unfold noIts; rw [List.getElem?_map, h]; rfl

theorem units_seq {G : Nat → Option (List AV)} {cap : List AV} {H : List AObj} {xs : List (List AV)} {L : List Nat} (h : unitSeq cap H = some (xs, L)) :
    (∀ x ∈ xs, x.length = 1 ∧ ∀ v ∈ x, plainV v = true) ∧ (∀ args w, (callFunc 94 args).run Tryz.prog w = .ok (.enter 94 args) w) ∧
    ∀ K w lb, K.glob = G → Inv K H w → Vs K cap lb → SeqW Tryz.prog 94 lb (xs.map fun x => (x.map concV).toArray) L K H := by
  unfold unitSeq at h
  split at h
  · rename_i id
    split at h
    · rename_i tg rows cs T ho
      split at h
      · rename_i r hr
        cases hle : Nat.ble rows.length 9223372036854775807 with
        | false => rw [hle] at h; cases h
        | true =>
          rw [hle] at h
          cases h
          obtain ⟨e1, e2, e3⟩ := pcs_get hr
          refine ⟨e2, fun args w => callFunc_enter Tryz.func94 (by kernel_rfl) (by kernel_rfl) args w, ?_⟩
          intro K w lb _ hi hv
          obtain ⟨x0, rfl, hx0⟩ := one_arg hv
          cases hx0 with
          | ptr _ _ cb hcb =>
            intro l W J Jx hiW hJ hJx hsz hY h0
            obtain ⟨b, vs, T', hb, hbase, hheap, hlen, hcs, _⟩ := hiW.obj id _ ho
            rw [hcb] at hb; cases hb
            have hv0 := hcs 0 _ rfl
            have hB : ∀ b s, K.shape b = some s → b < W.heap.size := fun b s hs => by
              have := hiW.shape b s hs
              cases s with
              | rows n => obtain ⟨vs, T, f, h1, _⟩ := this; exact (Array.getElem?_eq_some_iff.1 h1).1
              | mapv es => obtain ⟨c, h1⟩ := this; exact (Array.getElem?_eq_some_iff.1 h1).1
              | fix o => exact (Array.getElem?_eq_some_iff.1 this.1).1
            have hbb : ∀ b, W.heap.size ≤ b → K.base b := hiW.base
            let KO : World → Prop := fun W' => ∃ K' H', K.le K' ∧ Inv K' H' W' ∧ Low W.heap.size K' H'
            have toKO : ∀ W', KeptO K H [] W' → KO W' := fun W' ⟨K', H', hk, hi', _⟩ => by
              have hb' : ∀ b, W.heap.size ≤ b → K'.base b := fun b h => by rw [hk.base]; exact hbb b h
              refine ⟨K'.dim W.heap.size, noIts H', le_dim hk hB hb', ?_, ?_⟩
              · exact (hi'.dim _).unsee (by simp [noIts]) (fun i x hx => (noIts_get hx).1) fun t fr T ht => noIts_tok ht
              · exact ⟨fun id b s p hx _ => absurd rfl ((noIts_get hx).2 s p), fun b o ho => (dim_fix ho).1⟩
            have hsl : ∃ a cap', vs.getD 0 undef = .slice a (pcs rows).length cap' ∧ ∀ W' k p, KO W' → (pcs rows)[k]? = some p → ∃ b o, a = some ⟨b, o, none⟩ ∧ W'.cell? ⟨b, o + k * 3, none⟩ = some (.int .u8 p.1) ∧ W'.cell? ⟨b, o + k * 3 + 1, none⟩ = some (.string p.2.1) ∧ W'.cell? ⟨b, o + k * 3 + 2, none⟩ = some (.bool p.2.2) := by
              generalize vs.getD 0 undef = x at hv0
              cases hv0 with
              | slice0 _ _ a _ => exact ⟨a, 0, rfl, fun W' k p _ hp => by simp [pcs] at hp⟩
              | sliceAny _ _ a c _ => exact ⟨a, c, rfl, fun W' k p _ hp => by simp [pcs] at hp⟩
              | slice _ _ _ b o c us hl him hvv hc ht =>
                refine ⟨_, c, by rw [pcs_len], fun W' k p ⟨K', H', hk, hi', _⟩ hp => ⟨b, o, rfl, ?_⟩⟩
                obtain ⟨s, hrow, hs⟩ := e3 k p hp
                have key : ∀ j av, [AV.int .u8 p.1, .str s, .bool p.2.2][j]? = some av → W'.cell? ⟨b, o + k * 3 + j, none⟩ = some (us k j) ∧ V K av (us k j) := fun j av hj =>
                  ⟨hi'.imm _ _ _ (hk.imm _ _ _ (him k j _ av hrow hj)), hvv k j _ av hrow hj⟩
                obtain ⟨a0, b0⟩ := key 0 _ rfl
                obtain ⟨a1, b1⟩ := key 1 _ rfl
                obtain ⟨a2, b2⟩ := key 2 _ rfl
                generalize us k 0 = y0 at a0 b0
                generalize us k 1 = y1 at a1 b1
                generalize us k 2 = y2 at a2 b2
                cases b0; cases b1; cases b2
                exact ⟨a0, by rw [hs]; exact a1, a2⟩
            obtain ⟨a, cap', hx, hcell⟩ := hsl
            have hcell0 : W.cell? ⟨cb, 0, none⟩ = some (.slice a (pcs rows).length cap') := by
              rw [← hx]
              simp only [World.cell?, hheap]
              have : 0 < vs.size := by simp at hlen; omega
              simp [Array.getD, this]
            have hY' : ∀ i x W1, (piecesU (pcs rows))[i]? = some x → J i W1 → YieldAt Fence.wide 0 Tryz.prog l x W1 fun e W' => (e = .returned (.bool true) ∧ J (i + 1) W' ∧ KeptI W.heap.size W1 W' ∧ KO W') ∨ (e = .returned (.bool false) ∧ Jx W') := fun i x W1 hx hj => by
              rw [e1] at hx
              refine (hY i x W1 hx hj).mono ?_
              rintro e W' (⟨h1, h2, h3, h4⟩ | h1)
              · exact .inl ⟨h1, h2, h3, toKO _ h4⟩
              · exact .inr h1
            rw [← e1]
            refine t_units l cb W W.heap.size J Jx KO a cap' (pcs rows) (by rw [pcs_len]; exact Nat.le_of_ble_eq_true hle) hcell0 hcell ?_ hJ hsz hY' h0 (toKO W ⟨K, H, .refl K, hiW, fun id h => by simp at h⟩)
            rintro W1 W2 row ⟨K', H', hk, hi', hlow⟩ hg ht
            exact ⟨K', H', hk, hi'.grown hlow (fun b h => by rw [hk.base]; exact hbb b h) hg ht, hlow⟩
      · cases h
    · cases h
  · cases h
end Go.Am
end

section
set_option maxRecDepth 1000000
namespace Go.Am
open Go.RowKit Go.Proofs

/-- The functions without bodies. -/
def xorc (g : FuncId) (xs : List AV) (H : List AObj) : Option Out :=
  match xs with
  | [.str s, .int .u8 c] => bif Nat.beq g f_internal_bytealg_IndexByteString then some (.ret (.int .i64 (Lib.indexByte s c.toNat.toUInt8)), H) else none
  | [.fn _ _ _] => none
  | [x] => bif Nat.beq g f_internal_abi_NoEscape then some (.ret x, H) else none
  | _ => none

theorem x_index : ExtAt Tryz.prog f_internal_bytealg_IndexByteString Extern.BytealgIndexByte.indexByte := .of Tryz.func176 (by kernel_rfl) (by kernel_rfl) (by kernel_rfl) (by kernel_rfl)
theorem x_same : ExtAt Tryz.prog f_internal_abi_NoEscape Extern.AbiNoEscape.same := .of Tryz.func144 (by kernel_rfl) (by kernel_rfl) (by kernel_rfl) (by kernel_rfl)

theorem xorc_ok {g : FuncId} {xs : List AV} {H H' : List AObj} {r : ARes} (h : xorc g xs H = some (r, H')) : ACalls Tryz.prog G0 g xs H fun r2 H2 => r2 = r ∧ H2 = H' := by
  unfold xorc at h
  split at h
  · rename_i s c
    cases h2 : Nat.beq g f_internal_bytealg_IndexByteString with
    | true => rw [h2] at h; cases h; rw [Nat.eq_of_beq_eq_true h2]; exact ext_index x_index s c H
    | false => rw [h2] at h; cases h
  · cases h
  · rename_i x _
    cases h1 : Nat.beq g f_internal_abi_NoEscape with
    | true => rw [h1] at h; cases h; rw [Nat.eq_of_beq_eq_true h1]; exact ext_same x_same x H
    | false => rw [h1] at h; cases h
  · cases h

theorem x_mixed : Tryz.prog.follows .mixedOrders = true := by kernel_rfl
theorem g0 : ∀ (n g : Nat) (cs : List AV), G0 g = some cs → wkbL n cs = true := glob2_wk

def seq0 : FuncId → List AV → List AObj → Option (List (List AV) × List Nat) := fun g cap H => bif Nat.beq g 94 then unitSeq cap H else none
theorem seq0_ok (g : FuncId) (cap : List AV) (H : List AObj) (xs : List (List AV)) (L : List Nat) (h : seq0 g cap H = some (xs, L)) : (∀ x ∈ xs, x.length = 1 ∧ ∀ v ∈ x, plainV v = true) ∧ (∀ args w, (callFunc g args).run Tryz.prog w = .ok (.enter g args) w) ∧
    ∀ K w lb, K.glob = G0 → Inv K H w → Vs K cap lb → SeqW Tryz.prog g lb (xs.map fun x => (x.map concV).toArray) L K H := by
  unfold seq0 at h
  cases hb : Nat.beq g 94 with
  | true => rw [hb] at h; rw [Nat.eq_of_beq_eq_true hb]; exact units_seq h
  | false => rw [hb] at h; cases h
noncomputable def E0 : REnv := { P := Tryz.prog, G := G0, fn := ktab, orc := xorc, dfn := kdtab, seq := seq0, sar := fun _ => 1 }
theorem E0_ok : E0.Ok := ⟨x_mixed, fun f af h => ktab_ok f af h, fun f d af h => kdtab_ok f d af h, (fun _ _ _ _ _ h => by cases h), fun _ _ _ _ _ h => xorc_ok h, (fun _ _ _ h => by cases h), seq0_ok⟩

end Go.Am
end

section
set_option maxRecDepth 1000000
namespace Go.Am
open Go.RowKit Go.Proofs

theorem e0wo : ∀ f args H, E0.wo f args H = none := fun _ _ _ => rfl
def ps0 : List RPc := []
theorem ok0 : ∀ p ∈ ps0, p.Ok E0.P E0.G := fun p h => by cases h
def p1 : RPc := ⟨37, [(.str [97, 32, 92, 60, 98, 62, 32, 60, 98, 62, 120, 60, 47, 98, 62, 123, 110, 125])], [], (.tuple [(.slice .any 3 [[(.int .u8 1), (.str [97, 32, 60, 98, 62, 32]), (.bool false)], [(.int .u8 2), (.str [98]), (.bool false)], [(.int .u8 1), (.str [120]), (.bool false)], [(.int .u8 3), (.str [98]), (.bool false)], [(.int .u8 5), (.str [110]), (.bool false)]]), (.int .u8 0)])⟩
def ps1 : List RPc := p1 :: ps0
theorem ok1 : ∀ p ∈ ps1, p.Ok E0.P E0.G := pieces_cons E0_ok g0 ok0 e0wo (by kernel_rfl)
def p2 : RPc := ⟨17, [(.slice .full 3 [[(.str [37, 98, 68, 114, 46, 37, 115]), (.str []), (.bool false)], [(.str [37, 112, 37, 115]), (.str [37, 117]), (.bool true)]]), (.slice .full 3 [[(.int .u8 1), (.str [68, 114, 46, 32, 65, 32, 105, 115, 32, 105, 110, 46, 32, 71, 111]), (.bool false)]])], [], (.tuple [(.slice .any 1 [[(.int .i64 13)]]), (.int .u8 0)])⟩
def ps2 : List RPc := p2 :: ps1
theorem ok2 : ∀ p ∈ ps2, p.Ok E0.P E0.G := pieces_cons E0_ok g0 ok1 e0wo (by kernel_rfl)
def p3 : RPc := ⟨42, [(.slice .full 3 [[(.int .u8 2), (.str [98]), (.bool false)], [(.int .u8 1), (.str [114, 101, 100]), (.bool false)], [(.int .u8 3), (.str [98]), (.bool false)], [(.int .u8 1), (.str [32, 104, 111, 117, 115, 101]), (.bool false)]]), (.slice .full 1 [[(.str [99, 97, 115, 97])], [(.str [114, 111, 106, 97])]]), (.slice .full 2 [[(.int .i64 0), (.int .i64 1)], [(.int .i64 1), (.int .i64 0)]])], (dd 12 ([.tok 1 9] ++ (dd 7 ([.tok 16 85] ++ (dd 11 ([.tok 1 9] ++ (dd 43 ([.tok 1 9] ++ (dd 20 [.tok 6 9]))))))))), (.tuple [(.slice .any 3 [[(.int .u8 1), (.str [99, 97, 115, 97, 32]), (.bool false)], [(.int .u8 2), (.str [98]), (.bool false)], [(.int .u8 1), (.str [114, 111, 106, 97]), (.bool false)], [(.int .u8 3), (.str [98]), (.bool false)]]), (.int .u8 0)])⟩
def ps3 : List RPc := p3 :: ps2
theorem ok3 : ∀ p ∈ ps3, p.Ok E0.P E0.G := pieces_cons E0_ok g0 ok2 e0wo (by kernel_rfl)
theorem lives_run : alone (EP E0 ps3) 1000000 f_truchmanlaw01_reads [] [] = some (.bool true) := by kernel_rfl
theorem lives_ok (H : List AObj) : ACalls Tryz.prog G0 f_truchmanlaw01_reads [] H fun r H' => r = .ret (.bool true) ∧ H' = H := piece_ok (EP_ok E0_ok g0 ok3 e0wo) g0 lives_run rfl

end Go.Am
end

section

end

section
set_option linter.unusedSimpArgs false
namespace Go.Am
open Go.RowKit

/-! Runes of a text, as plain lists -/
def dec1 (s : Str) : Nat × Nat := Lib.decodeL s
theorem dec1_w (s : Str) : 1 ≤ (dec1 s).2 := Lib.decodeL_width s
theorem dec1_le {s : Str} (h : s ≠ []) : (dec1 s).2 ≤ s.length := Lib.decodeL_le s h
theorem dec1_drop (s : Str) (i : Nat) : Utf8.decode ⟨s.toArray⟩ i = dec1 (s.drop i) := (Lib.decodeL_drop ⟨s.toArray⟩ i).symm
theorem encR (r : Nat) : (Utf8.encode (r : Int)).data.toList = Lib.encodeRune (r : Int) := by
  have h := Extern.FmtText.encode_eq r
  unfold Lib.encodeRune
  rw [← h, Extern.FmtText.nums, List.map_map]
  conv => lhs; rw [← List.map_id (Utf8.encode (r : Int)).data.toList]
  refine List.map_congr_left fun c _ => ?_
  simp
theorem enc_dec {s : Str} (hne : s ≠ []) (hv : ¬ ((dec1 s).1 = 65533 ∧ (dec1 s).2 = 1)) : (Utf8.encode ((dec1 s).1 : Int)).data.toList = s.take (dec1 s).2 := by
  rw [encR]; exact Lib.encode_decode s hne hv

/-- The runes of a text, so many at most. -/
def runN : Nat → Str → List Nat
  | 0, _ => []
  | n + 1, s => match s with
    | [] => []
    | c :: t => (dec1 (c :: t)).1 :: runN n ((c :: t).drop (dec1 (c :: t)).2)
theorem runN_nil (n : Nat) : runN n [] = [] := by cases n <;> rfl
theorem runN_step {n : Nat} {s : Str} (h : s ≠ []) : runN (n + 1) s = (dec1 s).1 :: runN n (s.drop (dec1 s).2) := by
  cases s with
  | nil => exact absurd rfl h
  | cons c t => rfl
def runesL (s : Str) : List Nat := runN s.length s
theorem runesG_runN (s : Str) : ∀ (n i : Nat), runesG ⟨s.toArray⟩ n i = (runN n (s.drop i)).map Int.ofNat
  | 0, i => rfl
  | n + 1, i => by
    rw [runesG]
    have hsz : (ByteArray.mk s.toArray).size = s.length := by simp [ByteArray.size]
    by_cases h : i < s.length
    · rw [if_pos (by rw [hsz]; exact h), runN_step (fun e => by have := congrArg List.length e; simp at this; omega), runesG_runN s n, dec1_drop, List.map_cons, List.drop_drop]
    · rw [if_neg (by rw [hsz]; exact h), List.drop_of_length_le (by omega), runN_nil]; rfl
theorem runesOf_L (s : Str) : runesOf s = (runesL s).map Int.ofNat := by
  unfold runesOf runesL
  rw [runesG_runN, List.drop_zero]

/-! Whether a text is text -/
def badR (r w : Nat) : Bool := ((r : Int) == 65533) && decide ((w : Int) < 2) || decide ((r : Int) < 32) || ((r : Int) == 127)
def textN : Nat → Str → Bool
  | 0, _ => true
  | n + 1, s => match s with
    | [] => true
    | c :: t => !badR (dec1 (c :: t)).1 (dec1 (c :: t)).2 && textN n ((c :: t).drop (dec1 (c :: t)).2)
theorem textN_nil (n : Nat) : textN n [] = true := by cases n <;> rfl
theorem textN_step {n : Nat} {s : Str} (h : s ≠ []) : textN (n + 1) s = (!badR (dec1 s).1 (dec1 s).2 && textN n (s.drop (dec1 s).2)) := by
  cases s with
  | nil => exact absurd rfl h
  | cons c t => rfl
def textF (s : Str) : Bool := textN s.length s
/-! The string of a string's runes -/
theorem runeStr_nat : ∀ l : List Nat, runeStr (l.map Int.ofNat) = (l.map fun r => (Utf8.encode ((r : Nat) : Int)).data.toList).flatten
  | [] => rfl
  | r :: l => by rw [List.map_cons, runeStr, runeStr_nat l, List.map_cons, List.flatten_cons, Int.ofNat_eq_natCast]
def strL (l : List Nat) : Str := (l.map fun r => (Utf8.encode ((r : Nat) : Int)).data.toList).flatten
theorem strL_cons (r : Nat) (l : List Nat) : strL (r :: l) = (Utf8.encode (r : Int)).data.toList ++ strL l := rfl
theorem enc_bad {r : Nat} (h : r = 65533) : (Utf8.encode (r : Int)).data.toList = [239, 191, 189] := by
  rw [Extern.FmtText.enc3 r (by omega) (by omega) (by omega), h]
  rfl
theorem dec_bad (t : Str) : dec1 (239 :: 191 :: 189 :: t) = (65533, 3) := by
  unfold dec1
  rw [Lib.decodeL_N]
  simp [Lib.decodeN]
/-- Valid: no rune was wrong. -/
def validN : Nat → Str → Bool
  | 0, _ => true
  | n + 1, s => match s with
    | [] => true
    | c :: t => !(((dec1 (c :: t)).1 == 65533) && ((dec1 (c :: t)).2 == 1)) && validN n ((c :: t).drop (dec1 (c :: t)).2)
theorem str_valid : ∀ (n : Nat) (s : Str), s.length ≤ n → ((strL (runN n s) == s) = validN n s)
  | 0, s, h => by
    obtain rfl : s = [] := List.eq_nil_of_length_eq_zero (by omega)
    rfl
  | n + 1, [], _ => rfl
  | n + 1, c :: t, h => by
    have hw := dec1_w (c :: t)
    have ih := str_valid n ((c :: t).drop (dec1 (c :: t)).2) (by rw [List.length_drop]; simp at h ⊢; omega)
    rw [runN_step (by simp), strL_cons, validN]
    by_cases hb : (dec1 (c :: t)).1 = 65533 ∧ (dec1 (c :: t)).2 = 1
    · have hbb : (((dec1 (c :: t)).1 == 65533) && ((dec1 (c :: t)).2 == 1)) = true := by simp [hb]
      rw [hbb, Bool.not_true, Bool.false_and, beq_eq_false_iff_ne, enc_bad hb.1]
      intro e
      generalize strL (runN n ((c :: t).drop (dec1 (c :: t)).2)) = u at e
      have e2 : c :: t = (239 : UInt8) :: 191 :: 189 :: u := by rw [← e]; rfl
      rw [e2, dec_bad] at hb
      exact absurd hb.2 (by decide)
    · have hbb : (((dec1 (c :: t)).1 == 65533) && ((dec1 (c :: t)).2 == 1)) = false := by
        rw [Bool.and_eq_false_iff]
        by_cases h1 : (dec1 (c :: t)).1 = 65533
        · right; simp; exact fun h2 => hb ⟨h1, h2⟩
        · left; simpa using h1
      rw [hbb, Bool.not_false, Bool.true_and, ← ih, enc_dec (by simp) hb, Bool.eq_iff_iff, beq_iff_eq, beq_iff_eq]
      constructor
      · intro e
        have e3 : (c :: t).take (dec1 (c :: t)).2 ++ strL (runN n ((c :: t).drop (dec1 (c :: t)).2)) = (c :: t).take (dec1 (c :: t)).2 ++ (c :: t).drop (dec1 (c :: t)).2 := by rw [List.take_append_drop]; exact e
        exact List.append_cancel_left e3
      · intro e
        rw [e, List.take_append_drop]
def okR (l : List Nat) : Bool := l.all fun r => !(decide ((r : Int) < 32) || ((r : Int) == 127))
theorem text_valid : ∀ (n : Nat) (s : Str), s.length ≤ n → (validN n s && okR (runN n s)) = textN n s
  | 0, s, h => rfl
  | n + 1, [], _ => rfl
  | n + 1, c :: t, h => by
    have hw := dec1_w (c :: t)
    have ih := text_valid n ((c :: t).drop (dec1 (c :: t)).2) (by rw [List.length_drop]; simp at h ⊢; omega)
    rw [runN_step (by simp), validN, textN, ← ih]
    unfold okR badR
    rw [List.all_cons]
    have e1 : (((dec1 (c :: t)).1 : Int) == 65533) = ((dec1 (c :: t)).1 == 65533) := by rw [Bool.eq_iff_iff]; simp; omega
    have e2 : decide (((dec1 (c :: t)).2 : Int) < 2) = ((dec1 (c :: t)).2 == 1) := by rw [Bool.eq_iff_iff]; simp; omega
    rw [e1, e2]
    cases ((dec1 (c :: t)).1 == 65533) <;> cases ((dec1 (c :: t)).2 == 1) <;> cases decide (((dec1 (c :: t)).1 : Int) < 32) <;> cases (((dec1 (c :: t)).1 : Int) == 127) <;> simp
/-- The specification's way to say that a text is text. -/
theorem textF_ref (s : Str) : (sel (strL (runesL s) == s) (okR (runesL s)) false) = textF s := by
  unfold textF
  rw [← text_valid s.length s (Nat.le_refl _), ← str_valid s.length s (Nat.le_refl _)]
  show sel _ _ _ = (strL (runesL s) == s && _)
  cases strL (runesL s) == s <;> rfl
theorem runN_len : ∀ (n : Nat) (s : Str), (runN n s).length ≤ s.length
  | 0, _ => Nat.zero_le _
  | n + 1, [] => by simp [runN]
  | n + 1, c :: t => by
    have hw := dec1_w (c :: t)
    have := runN_len n ((c :: t).drop (dec1 (c :: t)).2)
    rw [runN_step (by simp), List.length_cons]
    rw [List.length_drop] at this
    simp at this ⊢; omega
theorem runesL_len (s : Str) : (runesL s).length ≤ s.length := runN_len _ _
end Go.Am
end

section
set_option linter.unusedSimpArgs false
set_option linter.unusedVariables false
set_option maxRecDepth 100000
set_option maxHeartbeats 4000000
namespace Go.Am
open Go.RowKit
attribute [local congr] dsel_congr sel_c1 slc_cong gsel_congr go_congr aft_congr aftD_congr condR_congr backR_congr inR_congr at2_congr
variable {E : REnv} (M : Mach cdec E)

structure BasE (E : REnv) : Prop where
  docs_isText : E.fn f_docs_isText = some a_docs_isText
  docs_isName : E.fn f_docs_isName = some a_docs_isName
  truchmanref01_Text : E.fn f_truchmanref01_Text = some a_truchmanref01_Text
  truchmanref01_Name : E.fn f_truchmanref01_Name = some a_truchmanref01_Name
  docs_carried_takes : E.fn f_docs_carried_takes = some a_docs_carried_takes
  docs_stack_string_pop : E.fn f_docs_stack_string_pop = some a_docs_stack_string_pop
  docs_stack_string_push : E.fn f_docs_stack_string_push = some a_docs_stack_string_push
  docs_CheckPieces : E.fn f_docs_CheckPieces = some a_docs_CheckPieces
  truchmanref01_alone : E.fn f_truchmanref01_alone = some a_truchmanref01_alone
  truchmanref01_carried : E.fn f_truchmanref01_carried = some a_truchmanref01_carried
  truchmanref01_CheckPieces : E.fn f_truchmanref01_CheckPieces = some a_truchmanref01_CheckPieces
  truchmanref01_SamePieces : E.fn f_truchmanref01_SamePieces = some a_truchmanref01_SamePieces
  truchmanlaw01_long : E.fn f_truchmanlaw01_long = some a_truchmanlaw01_long

/-! Functions without bodies -/
def decG (s : Str) : Nat × Nat := if s = [] then (65533, 0) else dec1 s
structure ExtD (M : Mach cdec E) : Prop where
  dec : ∀ (s : Str) (H : List AObj), M.run f_unicode_utf8_DecodeRuneInString [.str s] H = some (.ret (.tuple [.int .i32 ((decG s).1 : Int), .int .i64 ((decG s).2 : Int)]), H)

/-! Strings -/
theorem sls_from {s : Str} {k : IntKind} {i : Nat} (h : i ≤ s.length) : rsls (.str s) (some (.int k (i : Int))) none = some (.str (s.drop i)) := by
  simp [rsls, abound, h]
  exact List.take_of_length_le (by simp)
theorem wrap_a {a b : Nat} (h : a + b ≤ maxL) : IntKind.i64.wrap ((a : Int) + (b : Int)) = ((a + b : Nat) : Int) := by
  simp only [maxL] at h
  rw [wrap_i64 (by omega) (by omega)]; omega

theorem slc_na {α : Type} (b p : Bool) (x y : α) : slc b y (slc p x y) = slc (!b && p) x y := by cases b <;> rfl
theorem txl (hX : ExtD M) {s : Str} (hs : s.length ≤ maxL) {H H0 : List AObj} (hc : CutOk H0 H) (k : List Fra) : ∀ (n i : Nat) (He : List AObj), s.length - i ≤ n → i ≤ s.length →
    M.go a_docs_isText H0 (.c l_docs_isText_0 :: .lp ⟨(some [0, 3]), [], false⟩ l_docs_isText_0 He :: .blk 0 :: .c (.lv []) :: k) (kv [(0, .str s), (3, .int .i64 i)]) H = sel (textN n (s.drop i)) (M.go a_docs_isText H0 k .leaf H) (some (.ret (.bool false), H.take H0.length))
  | 0, i, He, h, hi => by
    obtain rfl : i = s.length := by omega
    rw [go_head M l_docs_isText_0.eq_1]
    simp (maxSteps := 3000000) (maxDischargeDepth := 6) +contextual -implicitDefEqProofs only [amC M, ↓amD, Nat.reduceBEq, Nat.reduceAdd, env, fargs, q_docs_isText, Nat.lt_irrefl, textN]
  | n + 1, i, He, h, hi => by
    by_cases hlt : i < s.length
    · have hne : s.drop i ≠ [] := fun e => by have := congrArg List.length e; simp at this; omega
      have hw := dec1_w (s.drop i)
      have hle := dec1_le hne
      rw [List.length_drop] at hle
      have hd := fun H => hX.dec (s.drop i) H
      have hg : decG (s.drop i) = dec1 (s.drop i) := if_neg hne
      rw [hg] at hd
      have ih := fun He => txl hX hs hc k n (i + (dec1 (s.drop i)).2) He (by omega) (by omega)
      rw [← List.drop_drop] at ih
      have hws := wrap_a (a := i) (b := (dec1 (s.drop i)).2) (by omega)
      rw [textN_step hne]
      simp only [kv_cons, kv_nil] at ih
      generalize dec1 (s.drop i) = d at *
      rw [go_head M l_docs_isText_0.eq_1]
      simp (maxSteps := 3000000) (maxDischargeDepth := 6) +contextual -implicitDefEqProofs only [amC M, ↓amD, Nat.reduceBEq, Nat.reduceAdd, env, fargs, q_docs_isText, hlt, sls_from hi, hd, ih, hws, badR, hc]
      exact slc_na _ _ _ _
    · obtain rfl : i = s.length := by omega
      rw [List.drop_length, textN_nil]
      rw [go_head M l_docs_isText_0.eq_1]
      simp (maxSteps := 3000000) (maxDischargeDepth := 6) +contextual -implicitDefEqProofs only [amC M, ↓amD, Nat.reduceBEq, Nat.reduceAdd, env, fargs, q_docs_isText, Nat.lt_irrefl]
theorem run_isText (hB : BasE E) (hX : ExtD M) {s : Str} (hs : s.length ≤ maxL) (H : List AObj) : M.run f_docs_isText [.str s] H = some (.ret (.bool (textF s)), H) := by
  rw [run_c M hB.docs_isText rfl (c := c_docs_isText) rfl, c_docs_isText]
  have hl := fun k He => txl M hX hs (cut_refl H) k s.length 0 He (by omega) (by omega)
  simp only [kv_cons, kv_nil, Int.ofNat_zero, List.drop_zero] at hl
  simp (maxSteps := 3000000) (maxDischargeDepth := 6) +contextual -implicitDefEqProofs only [amC M, ↓amD, Nat.reduceBEq, Nat.reduceAdd, env, fargs, q_docs_isText, hl, textF]

/-! The specification's text -/
theorem rcvrs_L (t : Tag) (l : List Nat) : rcvrs (.slice t 1 ((l.map Int.ofNat).map fun n => [.int .i32 n])) = some (.str (strL l)) := by
  have h : ∀ l : List Nat, arunes ((l.map Int.ofNat).map fun n => [AV.int .i32 n]) = some (l.map Int.ofNat) := fun l => by
    induction l with
    | nil => rfl
    | cons r l ih => simp only [List.map_cons, arunes] at ih ⊢; rw [ih]; rfl
  simp only [rcvrs, h, Option.map_some, runeStr_nat]; rfl
theorem rcvsr_L {s : Str} (h : s.length ≤ 70368744177664) : rcvsr (.str s) = some (.slice .any 1 ((runesL s).map fun r : Nat => [AV.int .i32 (r : Int)])) := by
  simp only [rcvsr, if_pos h, runesOf_L, List.map_map]; rfl
def runeRow (r : Nat) : List AV := [.int .i32 (r : Int)]
theorem rcvsr_R {s : Str} (h : s.length ≤ 70368744177664) : rcvsr (.str s) = some (.slice .any 1 ((runesL s).map runeRow)) := rcvsr_L h
theorem rcvrs_R (t : Tag) (l : List Nat) : rcvrs (.slice t 1 (l.map runeRow)) = some (.str (strL l)) := by
  rw [← rcvrs_L t l, List.map_map]; rfl
theorem qRune : (∀ r : Nat, rload none (runeRow r) 0 = some (.int .i32 (r : Int))) := fun _ => rfl
theorem rtx {H H0 : List AObj} {l : List Nat} (hl : l.length ≤ maxL) (hc : CutOk H0 H) (k : List Fra) : ∀ (n i : Nat) (He : List AObj), i + n = l.length →
    M.go a_truchmanref01_Text H0 (.c l_truchmanref01_Text_0 :: .lp ⟨(some [3, 4]), [], false⟩ l_truchmanref01_Text_0 He :: .blk 0 :: .c (.lv []) :: k) (kv [(3, .slice .any 1 (l.map runeRow)), (4, .int .i64 i)]) H =
      sel ((l.drop i).all fun r => !(decide ((r : Int) < 32) || ((r : Int) == 127))) (M.go a_truchmanref01_Text H0 k .leaf H) (some (.ret (.bool false), H.take H0.length))
  | 0, i, He, h => by
    have e : i = l.length := by omega
    subst e
    rw [go_head M l_truchmanref01_Text_0.eq_1]
    simp (maxSteps := 3000000) (maxDischargeDepth := 6) +contextual -implicitDefEqProofs only [amC M, ↓amD, Nat.reduceBEq, Nat.reduceAdd, env, fargs, q_truchmanref01_Text, Nat.lt_irrefl, List.drop_length, List.all_nil]
  | n + 1, i, He, h => by
    have hi : i < l.length := by omega
    have hx : l[i]? = some l[i] := List.getElem?_eq_getElem hi
    have hd : (l.drop i) = l[i] :: l.drop (i + 1) := List.drop_eq_getElem_cons hi
    have hm : l[i] ∈ l := List.getElem_mem hi
    have ih := fun He => rtx (H := H) (H0 := H0) (l := l) (hl := hl) hc k n (i + 1)  He (by omega)
    simp only [kv_cons, kv_nil] at ih
    rw [go_head M l_truchmanref01_Text_0.eq_1]
    simp (maxSteps := 3000000) (maxDischargeDepth := 6) +contextual -implicitDefEqProofs only [amC M, ↓amD, Nat.reduceBEq, Nat.reduceAdd, env, fargs, q_truchmanref01_Text, hx, hd, hi, ih, wrap_s hi hl, ias_row hi, qRune, List.all_cons, hc]
    exact slc_na _ _ _ _
theorem run_Text (hB : BasE E) {s : Str} (hs : s.length ≤ 70368744177664) (H : List AObj) : M.run f_truchmanref01_Text [.str s] H = some (.ret (.bool (textF s)), H) := by
  rw [← textF_ref]
  have hn : (runesL s).length ≤ maxL := by have := runesL_len s; simp only [maxL]; omega
  rw [run_c M hB.truchmanref01_Text rfl (c := c_truchmanref01_Text) rfl, c_truchmanref01_Text]
  have hl := fun k He => rtx M (l := runesL s) hn (cut_refl H) k (runesL s).length 0 He (by omega)
  simp only [kv_cons, kv_nil, Int.ofNat_zero, List.drop_zero] at hl
  simp (maxSteps := 3000000) (maxDischargeDepth := 6) +contextual -implicitDefEqProofs only [amC M, ↓amD, Nat.reduceBEq, Nat.reduceAdd, env, fargs, q_truchmanref01_Text, hl, rcvsr_R hs, rcvrs_R, okR]

/-! Names -/
def inN (c : UInt8) : Bool := decide (97 ≤ (c.toNat : Int)) && decide ((c.toNat : Int) ≤ 122) || decide (48 ≤ (c.toNat : Int)) && decide ((c.toNat : Int) ≤ 57) || ((c.toNat : Int) == 45)
def nameD (s : Str) : Bool := match s with
  | [] => false
  | c :: t => decide (((c :: t).length : Int) ≤ 16) && decide (97 ≤ (c.toNat : Int)) && decide ((c.toNat : Int) ≤ 122) && (c :: t).all inN
theorem dlt (a b : Int) : decide (a < b) = !decide (b ≤ a) := by rw [Bool.eq_iff_iff]; simp
theorem nml {H H0 : List AObj} {s : Str} (hs : s.length ≤ maxL) (hc : CutOk H0 H) (k : List Fra) : ∀ (n i : Nat) (He : List AObj), i + n = s.length →
    M.go a_docs_isName H0 (.c l_docs_isName_0 :: .lp ⟨(some [0, 23, 24]), [], false⟩ l_docs_isName_0 He :: .blk 0 :: .c (.lv []) :: k) (kv [(0, .str s), (23, .int .i64 s.length), (24, .int .i64 i)]) H =
      sel ((s.drop i).all inN) (M.go a_docs_isName H0 k .leaf H) (some (.ret (.bool false), H.take H0.length))
  | 0, i, He, h => by
    have e : i = s.length := by omega
    subst e
    rw [go_head M l_docs_isName_0.eq_1]
    simp (maxSteps := 3000000) (maxDischargeDepth := 6) +contextual -implicitDefEqProofs only [amC M, ↓amD, Nat.reduceBEq, Nat.reduceAdd, env, fargs, q_docs_isName, Nat.lt_irrefl, List.drop_length, List.all_nil]
  | n + 1, i, He, h => by
    have hi : i < s.length := by omega
    have hx : s[i]? = some s[i] := List.getElem?_eq_getElem hi
    have hd : (s.drop i) = s[i] :: s.drop (i + 1) := List.drop_eq_getElem_cons hi
    have hm : s[i] ∈ s := List.getElem_mem hi
    have ih := fun He => nml (H := H) (H0 := H0) (s := s) (hs := hs) hc k n (i + 1)  He (by omega)
    simp only [kv_cons, kv_nil] at ih
    rw [go_head M l_docs_isName_0.eq_1]
    simp (maxSteps := 3000000) (maxDischargeDepth := 6) +contextual -implicitDefEqProofs only [amC M, ↓amD, Nat.reduceBEq, Nat.reduceAdd, env, fargs, q_docs_isName, hx, hd, hi, ih, wrap_s hi hs, List.all_cons, hc, inN]
theorem rnl {H H0 : List AObj} {s : Str} (hs : s.length ≤ maxL) (hc : CutOk H0 H) (k : List Fra) : ∀ (n i : Nat) (He : List AObj), i + n = s.length →
    M.go a_truchmanref01_Name H0 (.c l_truchmanref01_Name_0 :: .lp ⟨(some [0, 3]), [], false⟩ l_truchmanref01_Name_0 He :: .blk 0 :: .c (.lv []) :: k) (kv [(0, .str s), (3, .int .i64 i)]) H =
      sel ((s.drop i).all inN) (M.go a_truchmanref01_Name H0 k .leaf H) (some (.ret (.bool false), H.take H0.length))
  | 0, i, He, h => by
    have e : i = s.length := by omega
    subst e
    rw [go_head M l_truchmanref01_Name_0.eq_1]
    simp (maxSteps := 3000000) (maxDischargeDepth := 6) +contextual -implicitDefEqProofs only [amC M, ↓amD, Nat.reduceBEq, Nat.reduceAdd, env, fargs, q_truchmanref01_Name, Nat.lt_irrefl, List.drop_length, List.all_nil]
  | n + 1, i, He, h => by
    have hi : i < s.length := by omega
    have hx : s[i]? = some s[i] := List.getElem?_eq_getElem hi
    have hd : (s.drop i) = s[i] :: s.drop (i + 1) := List.drop_eq_getElem_cons hi
    have hm : s[i] ∈ s := List.getElem_mem hi
    have ih := fun He => rnl (H := H) (H0 := H0) (s := s) (hs := hs) hc k n (i + 1)  He (by omega)
    simp only [kv_cons, kv_nil] at ih
    rw [go_head M l_truchmanref01_Name_0.eq_1]
    simp (maxSteps := 3000000) (maxDischargeDepth := 6) +contextual -implicitDefEqProofs only [amC M, ↓amD, Nat.reduceBEq, Nat.reduceAdd, env, fargs, q_truchmanref01_Name, hx, hd, hi, ih, wrap_s hi hs, List.all_cons, hc, inN, dlt]
    rw [slc_na]; congr 1; simp only [Bool.not_and, Bool.not_or, Bool.not_not]
theorem run_isName (hB : BasE E) {s : Str} (hs : s.length ≤ maxL) (H : List AObj) : M.run f_docs_isName [.str s] H = some (.ret (.bool (nameD s)), H) := by
  rw [run_c M hB.docs_isName rfl (c := c_docs_isName) rfl, c_docs_isName]
  have hl := fun k He => nml M (s := s) hs (cut_refl H) k s.length 0 He (by omega)
  simp only [kv_cons, kv_nil, Int.ofNat_zero, List.drop_zero] at hl
  cases s with
  | nil => simp (maxSteps := 3000000) (maxDischargeDepth := 6) +contextual -implicitDefEqProofs only [amC M, ↓amD, Nat.reduceBEq, Nat.reduceAdd, env, fargs, q_docs_isName, hl, nameD, (show (([] : Str) == []) = true from rfl)]
  | cons c t =>
    simp (maxSteps := 3000000) (maxDischargeDepth := 6) +contextual -implicitDefEqProofs only [amC M, ↓amD, Nat.reduceBEq, Nat.reduceAdd, env, fargs, q_docs_isName, hl, nameD, dlt, List.getElem?_cons_zero, (show ((c :: t) == ([] : Str)) = false from rfl)]
    simp only [Bool.not_or, Bool.not_not]
theorem run_Name (hB : BasE E) {s : Str} (hs : s.length ≤ maxL) (H : List AObj) : M.run f_truchmanref01_Name [.str s] H = some (.ret (.bool (nameD s)), H) := by
  rw [run_c M hB.truchmanref01_Name rfl (c := c_truchmanref01_Name) rfl, c_truchmanref01_Name]
  have hl := fun k He => rnl M (s := s) hs (cut_refl H) k s.length 0 He (by omega)
  simp only [kv_cons, kv_nil, Int.ofNat_zero, List.drop_zero] at hl
  cases s with
  | nil => simp (maxSteps := 3000000) (maxDischargeDepth := 6) +contextual -implicitDefEqProofs only [amC M, ↓amD, Nat.reduceBEq, Nat.reduceAdd, env, fargs, q_truchmanref01_Name, hl, nameD, List.length_nil, (show ((((0 : Nat) : Int)) == 0) = true from rfl)]
  | cons c t =>
    have h0 : (((c :: t).length : Int) == 0) = false := by simp; omega
    simp (maxSteps := 3000000) (maxDischargeDepth := 6) +contextual -implicitDefEqProofs only [amC M, ↓amD, Nat.reduceBEq, Nat.reduceAdd, env, fargs, q_truchmanref01_Name, hl, nameD, dlt, List.getElem?_cons_zero, h0]
    simp only [Bool.not_or, Bool.not_not]

end Go.Am
end

section
set_option linter.unusedSimpArgs false
set_option linter.unusedVariables false
set_option maxRecDepth 100000
set_option maxHeartbeats 4000000
namespace Go.Am
open Go.RowKit
attribute [local congr] dsel_congr sel_c1 slc_cong gsel_congr go_congr aft_congr aftD_congr condR_congr backR_congr inR_congr at2_congr
variable {E : REnv} (M : Mach cdec E)

/-! Heaps that have grown -/
def Pre (H0 G : List AObj) : Prop := H0.length ≤ G.length ∧ ∀ i, i < H0.length → G[i]? = H0[i]?
theorem Pre.refl (H : List AObj) : Pre H H := ⟨Nat.le_refl _, fun _ _ => rfl⟩
theorem Pre.cut {H0 G : List AObj} (h : Pre H0 G) : CutOk H0 G := ⟨h.1, fun i x hi hx => .inl (by rw [← h.2 i hi]; exact hx)⟩
theorem Pre.take {H0 G : List AObj} (h : Pre H0 G) : G.take H0.length = H0 := by
  refine List.ext_getElem? fun i => ?_
  rw [List.getElem?_take]
  split
  · rename_i hi; exact h.2 i hi
  · rename_i hi; rw [List.getElem?_eq_none (by omega)]
theorem Pre.trans {A B C : List AObj} (h : Pre A B) (h' : Pre B C) : Pre A C := ⟨Nat.le_trans h.1 h'.1, fun i hi => by rw [h'.2 i (Nat.lt_of_lt_of_le hi h.1), h.2 i hi]⟩
theorem Pre.app {H0 G : List AObj} (h : Pre H0 G) (L : List AObj) : Pre H0 (G ++ L) := ⟨by have := h.1; simp; omega, fun i hi => by
  have := h.1
  rw [List.getElem?_append_left (by omega)]; exact h.2 i hi⟩
theorem Pre.set {H0 G : List AObj} (h : Pre H0 G) {id : Nat} (hid : H0.length ≤ id) (o : AObj) : Pre H0 (G.set id o) := ⟨by simpa using h.1, fun i hi => by
  rw [List.getElem?_set_ne (by omega)]; exact h.2 i hi⟩
/-- A heap that is the same ahead of a place, but for one object. -/
def But (b p : Nat) (G G' : List AObj) : Prop := G.length ≤ G'.length ∧ ∀ i, i < b → i ≠ p → G'[i]? = G[i]?
theorem But.refl (b p : Nat) (G : List AObj) : But b p G G := ⟨Nat.le_refl _, fun _ _ _ => rfl⟩
theorem But.pre {H0 G G' : List AObj} {b p : Nat} (h : But b p G G') (hp : Pre H0 G) (hb : H0.length ≤ b) (hq : H0.length ≤ p) : Pre H0 G' :=
  ⟨Nat.le_trans hp.1 h.1, fun i hi => by rw [h.2 i (by omega) (by omega)]; exact hp.2 i hi⟩

theorem lt_get {G : List AObj} {i : Nat} {x : AObj} (h : G[i]? = some x) : i < G.length := (List.getElem?_eq_some_iff.1 h).1
theorem set_app {G : List AObj} {i : Nat} (h : i < G.length) (o : AObj) (L : List AObj) : (G ++ L).set i o = G.set i o ++ L := by rw [List.set_append_left _ _ h]
theorem set_get1 {G : List AObj} {i : Nat} (h : i < G.length) (o : AObj) : (G.set i o)[i]? = some o := List.getElem?_set_self h
theorem get_setL {G : List AObj} {i : Nat} (h : i < G.length) (o : AObj) (L : List AObj) : (G.set i o ++ L)[i]? = some o := by
  rw [List.getElem?_append_left (by simpa using h)]; exact set_get1 h o
theorem cut_set0 {G : List AObj} {i : Nat} {o : AObj} (hw : WkObj G.length o) : CutOk G (G.set i o) := by
  refine ⟨by simp, fun j x hj hx => ?_⟩
  rw [List.getElem?_set] at hx
  split at hx
  · split at hx
    · cases hx; exact .inr hw
    · cases hx
  · exact .inl hx
theorem cut_setL {G : List AObj} {i : Nat} {o : AObj} (ho : WkObj G.length o) (L : List AObj) : CutOk G (G.set i o ++ L) := cut_more (cut_set0 ho) L
theorem take_setL {G : List AObj} {i : Nat} (o : AObj) (L : List AObj) : (G.set i o ++ L).take G.length = G.set i o := by
  rw [List.take_append_of_le_length (by simp)]; exact List.take_of_length_le (by simp)
theorem wk_cells2 (n : Nat) (b e : Bool) (T : TypeId) : WkObj n (.cells [.bool b, .bool e] T) := by
  intro c hc
  simp at hc
  rcases hc with rfl | rfl <;> exact wk_bool _ _

/-! Carried tags -/
def opensP (x : Piece) : Bool := (x.kind == 2) && x.car
def closesP (x : Piece) : Bool := (x.kind == 3) && x.car
def takesB (b e : Bool) (x : Piece) : Bool := !(opensP x && b || e && !closesP x)
theorem run_takes (hB : BasE E) {G : List AObj} {c : Nat} {b e : Bool} {T : TypeId} (hc : G[c]? = some (.cells [.bool b, .bool e] T)) (x : Piece) :
    M.run f_docs_carried_takes [.ptr c 0, .agg x.row] G = some (.ret (.bool (takesB b e x)), if takesB b e x = true then G.set c (.cells [.bool (b || !opensP x), .bool (e || closesP x)] T) else G) := by
  rw [run_c M hB.docs_carried_takes rfl (c := c_docs_carried_takes) rfl, c_docs_carried_takes]
  have hl := lt_get hc
  have g1 := fun L => hp_getl (L := L) hc
  have g2 := get_setL hl
  have s1 := set_app hl
  have s2 : ∀ (o o' : AObj) (L : List AObj), (G.set c o ++ L).set c o' = G.set c o' ++ L := fun o o' L => by rw [set_app (by simpa using hl), List.set_set]
  have l0 : ∀ b e : Bool, rload none [.bool b, .bool e] 0 = some (.bool b) := fun _ _ => rfl
  have l1 : ∀ b e : Bool, rload none [.bool b, .bool e] 1 = some (.bool e) := fun _ _ => rfl
  have e1 : ∀ b e b' : Bool, setRow [.bool b, .bool e] 0 [.bool b'] = [.bool b', .bool e] := fun _ _ _ => rfl
  have e2 : ∀ b e b' : Bool, setRow [.bool b, .bool e] 1 [.bool b'] = [.bool b, .bool b'] := fun _ _ _ => rfl
  have hq : ((x.kind == 2) && x.car) = opensP x := rfl
  have hq2 : ((x.kind == 3) && x.car) = closesP x := rfl
  have ck : ∀ b e L, CutOk G (G.set c (.cells [.bool b, .bool e] T) ++ L) := fun b e L => cut_setL (wk_cells2 _ _ _ _) L
  have tk := fun o L => take_setL (G := G) (i := c) o L
  cases hcase : (opensP x && b || e && !closesP x) with
  | true =>
    rw [takesB, hcase]
    simp (maxSteps := 3000000) (maxDischargeDepth := 6) +contextual -implicitDefEqProofs only [amC M, ↓amD, Nat.reduceBEq, Nat.reduceAdd, env, fargs, q_docs_carried_takes, amG, AV.cell, Nat.reduceMul, Nat.reduceLeDiff, qPiece, hp_get0, rnc, g1, g2, s1, s2, l0, l1, e1, e2, hq, hq2, hcase, ck, tk, cut_app, hp_take]
  | false =>
    rw [takesB, hcase]
    simp (maxSteps := 3000000) (maxDischargeDepth := 6) +contextual -implicitDefEqProofs only [amC M, ↓amD, Nat.reduceBEq, Nat.reduceAdd, env, fargs, q_docs_carried_takes, amG, AV.cell, Nat.reduceMul, Nat.reduceLeDiff, qPiece, hp_get0, rnc, g1, g2, s1, s2, l0, l1, e1, e2, hq, hq2, hcase, ck, tk, cut_app, hp_take]
end Go.Am
end

section
set_option linter.unusedSimpArgs false
set_option linter.unusedVariables false
set_option maxRecDepth 100000
set_option maxHeartbeats 4000000
namespace Go.Am
open Go.RowKit
attribute [local congr] dsel_congr sel_c1 slc_cong gsel_congr go_congr aft_congr aftD_congr condR_congr backR_congr inR_congr at2_congr
variable {E : REnv} (M : Mach cdec E)

/-! The stack of open tags: its top is first here -/
def strC (l : List Str) : List AV := l.map .str
def StkV (b : Nat) (G : List AObj) (v : AV) (st : List Str) : Prop :=
  (st = [] ∧ v = .slice .nil 1 []) ∨ ∃ (id : Nat) (junk : List AV), b ≤ id ∧ v = .rslice id 0 st.length 1 true ∧ G[id]? = some (.cells (strC st.reverse ++ junk) t_string)
theorem strC_len (l : List Str) : (strC l).length = l.length := by simp [strC]
theorem strC_app (l m : List Str) : strC (l ++ m) = strC l ++ strC m := by simp [strC]
theorem rowsOk_str (s : Str) : rowsOk 1 [[.str s]] = true := rfl
/-- A string is put on a stack. -/
theorem ap_stk {b : Nat} {G : List AObj} {v : AV} {st : List Str} (h : StkV b G v st) (hb : b ≤ G.length) (hl : st.length ≤ 1000000) (s : Str) :
    ∃ v' G', rap true G t_string 1 16 false v (.slice .full 1 [[.str s]]) = some (v', G') ∧ StkV b G' v' (s :: st) ∧ G.length ≤ G'.length ∧ ∀ i, i < b → G'[i]? = G[i]? := by
  rcases h with ⟨rfl, rfl⟩ | ⟨id, junk, hid, rfl, hg⟩
  · refine ⟨.rslice G.length 0 1 1 true, G ++ [.cells [.str s] t_string], ?_, .inr ⟨G.length, [], hb, rfl, by rw [hp_get0]; rfl⟩, by simp, fun i hi => List.getElem?_append_left (by omega)⟩
    simp only [rap, rappM, rsrc, or_true, if_true, rowsOk_str]
    rw [if_pos (by simp)]
    rfl
  · have hlt := lt_get hg
    have hlen : st.length * 1 ≤ (strC st.reverse ++ junk).length := by rw [List.length_append, strC_len, List.length_reverse]; omega
    refine ⟨.rslice G.length 0 (st.length + 1) 1 true, G.set id .dead ++ [.cells (strC (s :: st).reverse) t_string], ?_, .inr ⟨G.length, [], hb, rfl, ?_⟩, by simp, fun i hi => ?_⟩
    · simp only [rap, rappM, rsrc, or_true, if_true, rowsOk_str, hg]
      rw [if_pos ⟨trivial, trivial, hlen, by simp; omega, by simp; omega⟩]
      simp only [Nat.mul_one]
      rw [List.take_left' (by rw [strC_len, List.length_reverse]), List.reverse_cons, strC_app]
      rfl
    · rw [List.append_nil, show G.length = (G.set id .dead).length by simp, hp_get0]; rfl
    · rw [List.getElem?_append_left (by simp; omega), List.getElem?_set_ne (by omega)]
theorem len_stk {b : Nat} {G : List AObj} {v : AV} {st : List Str} (h : StkV b G v st) (H : List AObj) : rlen H .sl v = some (.int .i64 (st.length : Int)) := by
  rcases h with ⟨rfl, rfl⟩ | ⟨id, junk, hid, rfl, hg⟩ <;> rfl
/-- The top of a stack; what is below it. -/
theorem top_stk {b : Nat} {G : List AObj} {v : AV} {x : Str} {st : List Str} (h : StkV b G v (x :: st)) :
    (∃ p o cs, rias 1 v (.int .i64 (st.length : Int)) = some (.ptr p o) ∧ b ≤ p ∧ G[p]? = some (.cells cs t_string) ∧ rload none cs o = some (.str x)) ∧ ∃ v', rsll 1 v none (some (.int .i64 (st.length : Int))) none = some v' ∧ StkV b G v' st := by
  rcases h with ⟨h, _⟩ | ⟨id, junk, hid, rfl, hg⟩
  · cases h
  have e : strC (x :: st).reverse ++ junk = strC st.reverse ++ (.str x :: junk) := by rw [List.reverse_cons, strC_app, List.append_assoc]; rfl
  have hl : (strC st.reverse).length = st.length := by rw [strC_len, List.length_reverse]
  refine ⟨⟨id, 0 + st.length * 1, _, ?_, hid, hg, ?_⟩, .rslice id 0 st.length 1 true, ?_, .inr ⟨id, .str x :: junk, hid, rfl, by rw [hg, e]⟩⟩
  · simp only [rias]
    rw [if_pos ⟨trivial, by omega, by simp; omega⟩]
    simp
  · simp only [rload, e, Nat.zero_add, Nat.mul_one]
    rw [List.getElem?_append_right (by omega), hl, Nat.sub_self]; rfl
  · have h1 : abound (some (.int .i64 (st.length : Int))) (x :: st).length = some st.length := by simp [abound]
    simp only [rsll, h1, (show abound none 0 = some 0 from rfl)]
    cases st with
    | nil => rfl
    | cons y t => rw [if_pos (by simp)]; simp
/-- The stack stays where nothing at or behind b is turned. -/
theorem StkV.stay {b : Nat} {G G' : List AObj} {v : AV} {st : List Str} (h : StkV b G v st) (hs : ∀ i, b ≤ i → i < G.length → G'[i]? = G[i]?) : StkV b G' v st := by
  rcases h with ⟨rfl, rfl⟩ | ⟨id, junk, hid, rfl, hg⟩
  · exact .inl ⟨rfl, rfl⟩
  · exact .inr ⟨id, junk, hid, rfl, by rw [hs id hid (lt_get hg)]; exact hg⟩

theorem run_push (hB : BasE E) {b p : Nat} {G : List AObj} {v : AV} {T : TypeId} {st : List Str} (hp : G[p]? = some (.cells [v] T)) (hpb : p < b) (hb : b ≤ G.length) (h : StkV b G v st) (hl : st.length ≤ 1000000) (s : Str) :
    ∃ v' G', M.run f_docs_stack_string_push [.ptr p 0, .str s] G = some (.ret (.tuple []), G') ∧ G'[p]? = some (.cells [v'] T) ∧ StkV b G' v' (s :: st) ∧ But b p G G' := by
  obtain ⟨v', G1, h1, h2, h3, h4⟩ := ap_stk h hb hl s
  have hp1 : G1[p]? = some (.cells [v] T) := by rw [h4 p hpb]; exact hp
  have hlt := lt_get hp1
  refine ⟨v', G1.set p (.cells [v'] T), ?_, List.getElem?_set_self hlt, h2.stay fun i hi _ => by rw [List.getElem?_set_ne (by omega)], by simpa using h3, fun i hi hne => by rw [List.getElem?_set_ne (by omega)]; exact h4 i hi⟩
  rw [run_c M hB.docs_stack_string_push rfl (c := c_docs_stack_string_push) rfl, c_docs_stack_string_push]
  have hcell : v'.cell = true := by
    rcases h2 with ⟨h, _⟩ | ⟨id, _, _, rfl, _⟩
    · cases h
    · rfl
  have hac : acells v' = some [v'] := by
    rcases h2 with ⟨h, _⟩ | ⟨id, _, _, rfl, _⟩
    · cases h
    · rfl
  have l0 : ∀ x : AV, rload none [x] 0 = some x := fun _ => rfl
  have s0 : ∀ x y : AV, setRow [x] 0 [y] = [y] := fun _ _ => rfl
  have hst : stO 1 G1 p 0 [v'] (some (.cells [v] T)) = some (G1.set p (.cells [v'] T)) := by
    simp only [stO]
    rw [if_pos ⟨rfl, by simp, by simp [hcell]⟩]; rfl
  simp (maxSteps := 3000000) (maxDischargeDepth := 6) +contextual -implicitDefEqProofs only [amC M, ↓amD, Nat.reduceBEq, Nat.reduceAdd, env, fargs, q_docs_stack_string_push, amG, AV.cell, Nat.reduceMul, Nat.reduceLeDiff, rnc, hp, l0, s0, h1, hp1, hac, hst, (show ∀ H, runit (some H) = some (undefA, H) from fun _ => rfl)]
def popB (st : List Str) (s : Str) : Bool := match st with
  | [] => false
  | x :: _ => x == s
theorem run_pop (hB : BasE E) {b p : Nat} {G : List AObj} {v : AV} {T : TypeId} {st : List Str} (hp : G[p]? = some (.cells [v] T)) (hpb : p < b) (hb : b ≤ G.length) (h : StkV b G v st) (hl : st.length ≤ 1000000) (s : Str) :
    ∃ v' G', M.run f_docs_stack_string_pop [.ptr p 0, .str s] G = some (.ret (.bool (popB st s)), G') ∧ G'[p]? = some (.cells [v'] T) ∧ StkV b G' v' (if popB st s = true then st.tail else st) ∧ G'.length = G.length ∧ ∀ i, i ≠ p → G'[i]? = G[i]? := by
  have hlt := lt_get hp
  have l0 : ∀ x : AV, rload none [x] 0 = some x := fun _ => rfl
  have s0 : ∀ x y : AV, setRow [x] 0 [y] = [y] := fun _ _ => rfl
  have hlen := len_stk h
  cases st with
  | nil =>
    refine ⟨v, G, ?_, hp, h, rfl, fun _ _ => rfl⟩
    rw [run_c M hB.docs_stack_string_pop rfl (c := c_docs_stack_string_pop) rfl, c_docs_stack_string_pop]
    have hlen0 : ∀ H, rlen H .sl v = some (.int .i64 0) := hlen
    simp (maxSteps := 3000000) (maxDischargeDepth := 6) +contextual -implicitDefEqProofs only [amC M, ↓amD, Nat.reduceBEq, Nat.reduceAdd, env, fargs, q_docs_stack_string_pop, rnc, hp, l0, hlen0, popB, beq_self_eq_true, cut_refl, hp_self]
  | cons x st =>
    obtain ⟨⟨q, o, cs, t1, t2, t3, t3'⟩, v', t4, t5⟩ := top_stk h
    have hw : IntKind.i64.wrap ((((x :: st).length : Nat) : Int) - 1) = (st.length : Int) := by
      simp only [List.length_cons] at hl ⊢
      rw [wrap_i64 (by omega) (by omega)]; omega
    have h0 : ((((x :: st).length : Nat) : Int) == 0) = false := by simp; omega
    have hw2 : IntKind.i64.wrap (((st.length + 1 : Nat) : Int) - 1) = (st.length : Int) := hw
    have h02 : (((st.length + 1 : Nat) : Int) == 0) = false := h0
    cases hx : x == s with
    | false =>
      refine ⟨v, G, ?_, hp, by rw [popB, hx]; exact h, rfl, fun _ _ => rfl⟩
      rw [run_c M hB.docs_stack_string_pop rfl (c := c_docs_stack_string_pop) rfl, c_docs_stack_string_pop]
      simp (maxSteps := 3000000) (maxDischargeDepth := 6) +contextual -implicitDefEqProofs only [amC M, ↓amD, Nat.reduceBEq, Nat.reduceAdd, env, fargs, q_docs_stack_string_pop, rnc, hp, l0, hlen, popB, hw, h0, hw2, h02, t1, t3, t3', hx, cut_refl, hp_self]
    | true =>
      refine ⟨v', G.set p (.cells [v'] T), ?_, List.getElem?_set_self hlt, by rw [popB, hx]; exact t5.stay fun i hi _ => by rw [List.getElem?_set_ne (by omega)], by simp, fun i hne => by rw [List.getElem?_set_ne (by omega)]⟩
      have hcell : v'.cell = true ∧ acells v' = some [v'] ∧ Wk G.length v' v' := by
        rcases t5 with ⟨_, rfl⟩ | ⟨id, _, _, rfl, hg⟩
        · exact ⟨rfl, rfl, wk_slice trivial (rowsWk_nil _)⟩
        · exact ⟨rfl, rfl, wk_rslice (lt_get hg)⟩
      have hwk : WkObj G.length (.cells [v'] T) := by
        intro c hc
        simp at hc; subst hc; exact hcell.2.2
      rw [run_c M hB.docs_stack_string_pop rfl (c := c_docs_stack_string_pop) rfl, c_docs_stack_string_pop]
      have hst : stO 1 G p 0 [v'] (some (.cells [v] T)) = some (G.set p (.cells [v'] T)) := by
        simp only [stO]
        rw [if_pos ⟨rfl, by simp, by simp [hcell.1]⟩]; rfl
      simp (maxSteps := 3000000) (maxDischargeDepth := 6) +contextual -implicitDefEqProofs only [amC M, ↓amD, Nat.reduceBEq, Nat.reduceAdd, env, fargs, q_docs_stack_string_pop, amG, AV.cell, Nat.reduceMul, Nat.reduceLeDiff, rnc, hp, l0, s0, hlen, popB, hw, h0, hw2, h02, t1, t3, t3', t4, hx, hst, (show ∀ H, runit (some H) = some (undefA, H) from fun _ => rfl), hcell.2.1, cut_set0 hwk]
      rw [List.take_of_length_le (by simp)]
end Go.Am
end

section
set_option linter.unusedSimpArgs false
set_option linter.unusedVariables false
set_option maxRecDepth 100000
set_option maxHeartbeats 4000000
namespace Go.Am
open Go.RowKit
attribute [local congr] dsel_congr sel_c1 slc_cong gsel_congr go_congr aft_congr aftD_congr condR_congr backR_congr inR_congr at2_congr
variable {E : REnv} (M : Mach cdec E)

/-! Lists of pieces that are valid -/
def argE (x : Piece) : Bool := decide (x.kind < 1) || decide (5 < x.kind)
def carE (x : Piece) : Bool := x.car && !(x.kind == 2) && !(x.kind == 3)
def frmE (p : Bool) (x : Piece) : Bool := (x.kind == 1) && ((x.text == []) || !textF x.text || p)
def namE (x : Piece) : Bool := !(x.kind == 1) && !nameD x.text
def stP (x : Piece) (st : List Str) : List Str := if (x.kind == 3) = true then st.tail else st
def chkL : List Piece → Bool → Bool → Bool → List Str → Int
  | [], _, _, _, st => sel (decide ((0 : Int) < (st.length : Int))) 9 0
  | x :: l, p, b, e, st => sel (argE x) 1 (sel (carE x) 1 (sel (frmE p x) 4 (sel (namE x) 5 (sel (takesB b e x) (sel ((x.kind == 3) && !popB st x.text) 9
      (sel (x.kind == 2) (sel (decide ((16 : Int) < ((x.text :: stP x st).length : Int))) 3 (chkL l (x.kind == 1) (b || !opensP x) (e || closesP x) (x.text :: stP x st)))
        (chkL l (x.kind == 1) (b || !opensP x) (e || closesP x) (stP x st)))) 8))))
def dP : Piece := ⟨0, [], false⟩
def prevT (l : List Piece) (i : Nat) : Bool := decide ((0 : Int) < (i : Int)) && ((l.getD (i - 1) dP).kind == 1)
theorem prevT_succ {l : List Piece} {i : Nat} {x : Piece} (h : l[i]? = some x) : prevT l (i + 1) = (x.kind == 1) := by
  have h1 : decide ((0 : Int) < ((i + 1 : Nat) : Int)) = true := decide_eq_true (by omega)
  simp [prevT, h1, List.getD, h]
theorem prevT_zero (l : List Piece) : prevT l 0 = false := rfl
abbrev TxtOk (l : List Piece) : Prop := ∀ x ∈ l, x.text.length ≤ 70368744177664

theorem ckl (hB : BasE E) (hX : ExtD M) {l : List Piece} {tg : Tag} (hl : l.length ≤ 1000000) (ht : TxtOk l) {H0 : List AObj} {bd p c : Nat} (hp0 : H0.length ≤ p) (hc0 : H0.length ≤ c) (hpb : p < bd) (hcb : c < bd) (hpc : p ≠ c) {k : List Fra}
    (hk : ∀ (G : List AObj) (v : AV) (st : List Str), G[p]? = some (.cells [v] t_docs_stack_string) → StkV bd G v st → Pre H0 G → M.go a_docs_CheckPieces H0 k (kv [(3, .ptr p 0)]) G = some (.ret (.int .u8 (sel (decide ((0 : Int) < (st.length : Int))) 9 0)), H0)) :
    ∀ (n i : Nat) (G He : List AObj) (v : AV) (st : List Str) (b e : Bool), i + n = l.length → Pre H0 G → bd ≤ G.length → G[p]? = some (.cells [v] t_docs_stack_string) → G[c]? = some (.cells [.bool b, .bool e] t_docs_carried) → StkV bd G v st → st.length ≤ 16 →
    M.go a_docs_CheckPieces H0 (.c l_docs_CheckPieces_0 :: .lp ⟨(some [0, 3, 4, 10, 11, 12]), [], false⟩ l_docs_CheckPieces_0 He :: .blk 0 :: .c (.lv [3]) :: k) (kv [(0, .slice tg 3 (l.map Piece.row)), (3, .ptr p 0), (4, .ptr c 0), (10, .slice tg 3 (l.map Piece.row)), (11, .int .i64 l.length), (12, .int .i64 i)]) G =
      some (.ret (.int .u8 (chkL (l.drop i) (prevT l i) b e st)), H0) := by
  intro n
  induction n with
  | zero =>
    intro i G He v st b e h hP hb hgp hgc hst h16
    obtain rfl : i = l.length := by omega
    rw [List.drop_length, chkL]
    have hk1 := hk G v st hgp hst hP
    simp only [kv_cons, kv_nil] at hk1
    rw [go_head M l_docs_CheckPieces_0.eq_1]
    simp (maxSteps := 3000000) (maxDischargeDepth := 6) +contextual -implicitDefEqProofs only [amC M, ↓amD, Nat.reduceBEq, Nat.reduceAdd, env, fargs, q_docs_CheckPieces, Nat.lt_irrefl, hk1]
  | succ n IH =>
    intro i G He v st b e h hP hb hgp hgc hst h16
    have hi : i < l.length := by omega
    have hx : l[i]? = some l[i] := List.getElem?_eq_getElem hi
    have hd : l.drop i = l[i] :: l.drop (i + 1) := List.drop_eq_getElem_cons hi
    have htx := ht _ (List.getElem_mem hi)
    have hsu := prevT_succ hx
    rw [hd]
    generalize l[i] = x at *
    have htm : x.text.length ≤ maxL := by simp only [maxL]; omega
    have hws := wrap_s hi (show l.length ≤ maxL by simp only [maxL]; omega)
    have hw1 : decide ((0 : Int) < (i : Int)) = true → IntKind.i64.wrap ((i : Int) - 1) = ((i - 1 : Nat) : Int) := fun h0 => wrap_p1 (by have := of_decide_eq_true h0; omega) (by simp only [maxL]; omega)
    have hi1 : i - 1 < l.length := by omega
    have hx1 : l[i - 1]? = some (l.getD (i - 1) dP) := by rw [List.getD, List.getElem?_eq_getElem hi1]; rfl
    have hia : ∀ k : IntKind, rias 3 (.slice tg 3 (l.map Piece.row)) (.int k ((i - 1 : Nat) : Int)) = some (.vptr 3 (l.map Piece.row) (i - 1) 0) := fun k => ias_row hi1
    have hT := fun H => run_isText M hB hX htm H
    have hN := fun H => run_isName M hB htm H
    have hct : ∀ L, CutOk H0 (G ++ L) := fun L => (hP.app L).cut
    have htk : ∀ L, (G ++ L).take H0.length = H0 := fun L => (hP.app L).take
    have hgx : ∀ T, (G ++ [AObj.cells x.row T])[G.length]? = some (.cells x.row T) := fun T => by rw [hp_get0]; rfl
    rw [chkL]
    cases ha : argE x with
    | true =>
      have ha' : (decide (x.kind < 1) || decide (5 < x.kind)) = true := ha
      rw [go_head M l_docs_CheckPieces_0.eq_1]
      simp (maxSteps := 3000000) (maxDischargeDepth := 6) +contextual -implicitDefEqProofs only [amC M, ↓amD, Nat.reduceBEq, Nat.reduceAdd, env, fargs, q_docs_CheckPieces, amG, AV.cell, Nat.reduceMul, Nat.reduceLeDiff, hi, hx, ias_row hi, qPiece, hp_get0, ha', hct, htk]
    | false =>
      have ha' : (decide (x.kind < 1) || decide (5 < x.kind)) = false := ha
      simp only [sel_false]
      cases hc : carE x with
      | true =>
        have hc' : (x.car && !(x.kind == 2) && !(x.kind == 3)) = true := hc
        rw [go_head M l_docs_CheckPieces_0.eq_1]
        simp (maxSteps := 3000000) (maxDischargeDepth := 6) +contextual -implicitDefEqProofs only [amC M, ↓amD, Nat.reduceBEq, Nat.reduceAdd, env, fargs, q_docs_CheckPieces, amG, AV.cell, Nat.reduceMul, Nat.reduceLeDiff, hi, hx, ias_row hi, qPiece, hp_get0, ha', hc', hct, htk]
      | false =>
        have hc' : (x.car && !(x.kind == 2) && !(x.kind == 3)) = false := hc
        simp only [sel_false]
        cases hf : frmE (prevT l i) x with
        | true =>
          have hf' : ((x.kind == 1) && ((x.text == []) || !textF x.text || (decide ((0 : Int) < (i : Int)) && ((l.getD (i - 1) dP).kind == 1)))) = true := hf
          rw [go_head M l_docs_CheckPieces_0.eq_1]
          simp (maxSteps := 3000000) (maxDischargeDepth := 6) +contextual -implicitDefEqProofs only [amC M, ↓amD, Nat.reduceBEq, Nat.reduceAdd, env, fargs, q_docs_CheckPieces, amG, AV.cell, Nat.reduceMul, Nat.reduceLeDiff, hi, hx, ias_row hi, qPiece, hp_get0, ha', hc', hf', hT, hw1, hia, hx1, hct, htk]
        | false =>
          have hf' : ((x.kind == 1) && ((x.text == []) || !textF x.text || (decide ((0 : Int) < (i : Int)) && ((l.getD (i - 1) dP).kind == 1)))) = false := hf
          simp only [sel_false]
          cases hn : namE x with
          | true =>
            have hn' : (!(x.kind == 1) && !nameD x.text) = true := hn
            rw [go_head M l_docs_CheckPieces_0.eq_1]
            simp (maxSteps := 3000000) (maxDischargeDepth := 6) +contextual -implicitDefEqProofs only [amC M, ↓amD, Nat.reduceBEq, Nat.reduceAdd, env, fargs, q_docs_CheckPieces, amG, AV.cell, Nat.reduceMul, Nat.reduceLeDiff, hi, hx, ias_row hi, qPiece, hp_get0, ha', hc', hf', hT, hw1, hia, hx1, hct, htk, hn', hN]
          | false =>
            have hn' : (!(x.kind == 1) && !nameD x.text) = false := hn
            simp only [sel_false]
            have hcl := lt_get hgc
            have htak := run_takes M hB (c := c) (b := b) (e := e) (T := t_docs_carried) (G := G ++ [.cells x.row t_api_Piece]) (hp_getl hgc) x
            cases htb : takesB b e x with
            | false =>
              simp only [htb, Bool.false_eq_true, if_false] at htak
              rw [go_head M l_docs_CheckPieces_0.eq_1]
              simp (maxSteps := 3000000) (maxDischargeDepth := 6) +contextual -implicitDefEqProofs only [amC M, ↓amD, Nat.reduceBEq, Nat.reduceAdd, env, fargs, q_docs_CheckPieces, amG, AV.cell, Nat.reduceMul, Nat.reduceLeDiff, hi, hx, ias_row hi, qPiece, hp_get0, ha', hc', hf', hT, hw1, hia, hx1, hct, htk, hn', hN, htak]
            | true =>
              simp only [htb, if_true] at htak
              simp only [sel_true]
              have hcl2 : c < (G ++ [AObj.cells x.row t_api_Piece]).length := by simp; omega
              have hne : c ≠ G.length := by omega
              have q1 : ((G ++ [AObj.cells x.row t_api_Piece]).set c (.cells [.bool (b || !opensP x), .bool (e || closesP x)] t_docs_carried))[p]? = some (.cells [v] t_docs_stack_string) := by
                rw [List.getElem?_set_ne (by omega)]; exact hp_getl hgp
              have q2 : ((G ++ [AObj.cells x.row t_api_Piece]).set c (.cells [.bool (b || !opensP x), .bool (e || closesP x)] t_docs_carried))[c]? = some (.cells [.bool (b || !opensP x), .bool (e || closesP x)] t_docs_carried) := List.getElem?_set_self hcl2
              have q3 : ((G ++ [AObj.cells x.row t_api_Piece]).set c (.cells [.bool (b || !opensP x), .bool (e || closesP x)] t_docs_carried))[G.length]? = some (.cells x.row t_api_Piece) := by
                rw [List.getElem?_set_ne hne, hp_get0]; rfl
              have q4 : Pre H0 ((G ++ [AObj.cells x.row t_api_Piece]).set c (.cells [.bool (b || !opensP x), .bool (e || closesP x)] t_docs_carried)) := (hP.app _).set hc0 _
              have q5 : StkV bd ((G ++ [AObj.cells x.row t_api_Piece]).set c (.cells [.bool (b || !opensP x), .bool (e || closesP x)] t_docs_carried)) v st := hst.stay fun j hj hj2 => by
                rw [List.getElem?_set_ne (by omega), List.getElem?_append_left hj2]
              have q6 : bd ≤ ((G ++ [AObj.cells x.row t_api_Piece]).set c (.cells [.bool (b || !opensP x), .bool (e || closesP x)] t_docs_carried)).length := by simp; omega
              have q7 : p ≠ G.length := by have := lt_get hgp; omega
              generalize (G ++ [AObj.cells x.row t_api_Piece]).set c (.cells [.bool (b || !opensP x), .bool (e || closesP x)] t_docs_carried) = G2 at htak q1 q2 q3 q4 q5 q6
              have hct2 := q4.cut
              have htk2 := q4.take
              cases h3 : x.kind == 3 with
              | true =>
                have h2 : (x.kind == 2) = false := by
                  have : x.kind = 3 := by simpa using h3
                  rw [this]; rfl
                obtain ⟨v3, G3, p1, p2, p3, p4, p5⟩ := run_pop M hB q1 hpb q6 q5 (by omega) x.text
                cases hpo : popB st x.text with
                | false =>
                  rw [hpo] at p1
                  have hP3 : Pre H0 G3 := ⟨by rw [p4]; exact q4.1, fun j hj => by rw [p5 j (by omega)]; exact q4.2 j hj⟩
                  have c3 := hP3.cut
                  have t3 := hP3.take
                  rw [go_head M l_docs_CheckPieces_0.eq_1]
                  simp (maxSteps := 3000000) (maxDischargeDepth := 6) +contextual -implicitDefEqProofs only [amC M, ↓amD, Nat.reduceBEq, Nat.reduceAdd, env, fargs, q_docs_CheckPieces, amG, AV.cell, Nat.reduceMul, Nat.reduceLeDiff, hi, hx, ias_row hi, qPiece, hp_get0, ha', hc', hf', hT, hw1, hia, hx1, hct, htk, hn', hN, htak, q3, h3, p1, c3, t3]
                | true =>
                  rw [hpo] at p1
                  simp only [hpo, if_true] at p3
                  have hP3 : Pre H0 G3 := ⟨by rw [p4]; exact q4.1, fun j hj => by rw [p5 j (by omega)]; exact q4.2 j hj⟩
                  have g3 : G3[G.length]? = some (.cells x.row t_api_Piece) := by rw [p5 _ (by omega)]; exact q3
                  have hstp : stP x st = st.tail := if_pos h3
                  have ih := fun He => IH (i + 1) G3 He v3 st.tail (b || !opensP x) (e || closesP x) (by omega) hP3 (by omega) p2 (by rw [p5 c (by omega)]; exact q2) p3 (by simp; omega)
                  rw [hsu] at ih
                  simp only [kv_cons, kv_nil] at ih
                  rw [go_head M l_docs_CheckPieces_0.eq_1]
                  simp (maxSteps := 3000000) (maxDischargeDepth := 6) +contextual -implicitDefEqProofs only [amC M, ↓amD, Nat.reduceBEq, Nat.reduceAdd, env, fargs, q_docs_CheckPieces, amG, AV.cell, Nat.reduceMul, Nat.reduceLeDiff, hi, hx, ias_row hi, qPiece, hp_get0, ha', hc', hf', hT, hw1, hia, hx1, hct, htk, hn', hN, htak, q3, h3, h2, p1, g3, hstp, hws, ih]
              | false =>
                have hstp : stP x st = st := if_neg (by rw [h3]; simp)
                cases h2 : x.kind == 2 with
                | false =>
                  have hc2 : x.car = false := by rw [h2, h3] at hc'; simpa using hc'
                  have ih := fun He => IH (i + 1) G2 He v st (b || !opensP x) (e || closesP x) (by omega) q4 q6 q1 q2 q5 h16
                  rw [hsu] at ih
                  simp only [kv_cons, kv_nil] at ih
                  rw [go_head M l_docs_CheckPieces_0.eq_1]
                  simp (maxSteps := 3000000) (maxDischargeDepth := 6) +contextual -implicitDefEqProofs only [amC M, ↓amD, Nat.reduceBEq, Nat.reduceAdd, env, fargs, q_docs_CheckPieces, amG, AV.cell, Nat.reduceMul, Nat.reduceLeDiff, hi, hx, ias_row hi, qPiece, hp_get0, ha', hc', hf', hT, hw1, hia, hx1, hct, htk, hn', hN, htak, q3, h3, h2, hc2, hstp, hws, ih]
                | true =>
                  obtain ⟨v3, G3, p1, p2, p3, p4⟩ := run_push M hB q1 hpb q6 q5 (by omega) x.text
                  have hP3 : Pre H0 G3 := p4.pre q4 (by omega) hp0
                  have c3 := hP3.cut
                  have t3 := hP3.take
                  have hlen := len_stk p3
                  have l0 : ∀ x : AV, rload none [x] 0 = some x := fun _ => rfl
                  have hlen2 : ∀ H, rlen H .sl v3 = some (.int .i64 ((st.length + 1 : Nat) : Int)) := hlen
                  cases hgt : decide ((16 : Int) < ((x.text :: stP x st).length : Int)) with
                  | true =>
                    have hgt2 : decide ((16 : Int) < ((st.length + 1 : Nat) : Int)) = true := by rw [← hgt, hstp]; rfl
                    rw [go_head M l_docs_CheckPieces_0.eq_1]
                    simp (maxSteps := 3000000) (maxDischargeDepth := 6) +contextual -implicitDefEqProofs only [amC M, ↓amD, Nat.reduceBEq, Nat.reduceAdd, env, fargs, q_docs_CheckPieces, amG, AV.cell, Nat.reduceMul, Nat.reduceLeDiff, hi, hx, ias_row hi, qPiece, hp_get0, ha', hc', hf', hT, hw1, hia, hx1, hct, htk, hn', hN, htak, q3, h3, h2, p1, p2, l0, hlen2, hgt2, c3, t3]
                  | false =>
                    have hgt2 : decide ((16 : Int) < ((st.length + 1 : Nat) : Int)) = false := by rw [← hgt, hstp]; rfl
                    have hle : (x.text :: st).length ≤ 16 := by have := of_decide_eq_false hgt2; simp only [List.length_cons]; omega
                    have ih := fun He => IH (i + 1) G3 He v3 (x.text :: st) (b || !opensP x) (e || closesP x) (by omega) hP3 (by have := p4.1; omega) p2 (by rw [p4.2 c hcb (by omega)]; exact q2) p3 hle
                    rw [hsu] at ih
                    simp only [kv_cons, kv_nil] at ih
                    rw [go_head M l_docs_CheckPieces_0.eq_1]
                    simp (maxSteps := 3000000) (maxDischargeDepth := 6) +contextual -implicitDefEqProofs only [amC M, ↓amD, Nat.reduceBEq, Nat.reduceAdd, env, fargs, q_docs_CheckPieces, amG, AV.cell, Nat.reduceMul, Nat.reduceLeDiff, hi, hx, ias_row hi, qPiece, hp_get0, ha', hc', hf', hT, hw1, hia, hx1, hct, htk, hn', hN, htak, q3, h3, h2, p1, p2, l0, hlen2, hgt2, hstp, hws, ih]
def checkP (l : List Piece) : Int := sel (decide ((512 : Int) < (l.length : Int))) 3 (chkL l false false false [])
theorem run_CheckPieces (hB : BasE E) (hX : ExtD M) {l : Sl Piece} (hl : l.l.length ≤ 1000000) (ht : TxtOk l.l) (H : List AObj) :
    M.run f_docs_CheckPieces [.slice l.tag 3 (l.l.map Piece.row)] H = some (.ret (.int .u8 (checkP l.l)), H) := by
  rw [run_c M hB.docs_CheckPieces rfl (c := c_docs_CheckPieces) rfl, c_docs_CheckPieces]
  cases h5 : decide ((512 : Int) < (l.l.length : Int)) with
  | true => simp (maxSteps := 3000000) (maxDischargeDepth := 6) +contextual -implicitDefEqProofs only [amC M, ↓amD, Nat.reduceBEq, Nat.reduceAdd, env, fargs, q_docs_CheckPieces, h5, checkP]
  | false =>
    have hlp := fun k hk He => ckl M hB hX (tg := l.tag) hl ht (H0 := H) (bd := H.length + 2) (p := H.length) (c := H.length + 1) (Nat.le_refl _) (by omega) (by omega) (by omega) (by omega) (k := k) hk l.l.length 0 (H ++ [.cells [.slice .nil 1 []] t_docs_stack_string, .cells [.bool false, .bool false] t_docs_carried]) He (.slice .nil 1 []) [] false false (by omega) ((Pre.refl H).app _) (by simp) (by rw [hp_get0]; rfl) (by rw [hp_getk]; rfl) (.inl ⟨rfl, rfl⟩) (by simp)
    simp only [kv_cons, kv_nil, Int.ofNat_zero, List.drop_zero, prevT_zero] at hlp
    have l0 : ∀ x : AV, rload none [x] 0 = some x := fun _ => rfl
    simp (maxSteps := 3000000) (maxDischargeDepth := 6) +contextual -implicitDefEqProofs only [amC M, ↓amD, Nat.reduceBEq, Nat.reduceAdd, env, fargs, q_docs_CheckPieces, h5, checkP]
    refine hlp _ (fun G v st hg hs hP => ?_) _
    have hlen := len_stk hs
    have hct := hP.cut
    have htk := hP.take
    simp (maxSteps := 3000000) (maxDischargeDepth := 6) +contextual -implicitDefEqProofs only [amC M, ↓amD, Nat.reduceBEq, Nat.reduceAdd, env, fargs, q_docs_CheckPieces, hg, l0, hlen, hct, htk]
end Go.Am
end

section
set_option linter.unusedSimpArgs false
set_option linter.unusedVariables false
set_option maxRecDepth 100000
set_option maxHeartbeats 4000000
namespace Go.Am
open Go.RowKit
attribute [local congr] dsel_congr sel_c1 slc_cong gsel_congr go_congr aft_congr aftD_congr condR_congr backR_congr inR_congr at2_congr
variable {E : REnv} (M : Mach cdec E)

theorem slc_or {α : Type} (b p : Bool) (x y : α) : slc b y (slc p y x) = slc (b || p) y x := by cases b <;> rfl
def aloneE (p : Bool) (x : Piece) : Int := sel (argE x) 1 (sel (carE x) 1 (sel (frmE p x) 4 (sel (namE x) 5 0)))
theorem run_alone (hB : BasE E) {l : List Piece} {tg : Tag} (hl : l.length ≤ 1000000) (ht : TxtOk l) {i : Nat} {x : Piece} (hx : l[i]? = some x) (H : List AObj) :
    M.run f_truchmanref01_alone [.slice tg 3 (l.map Piece.row), .int .i64 i] H = some (.ret (.int .u8 (aloneE (prevT l i) x)), H) := by
  have hi : i < l.length := (List.getElem?_eq_some_iff.1 hx).1
  have htx := ht _ (List.mem_of_getElem? hx)
  have htm : x.text.length ≤ maxL := by simp only [maxL]; omega
  have hw1 : decide ((0 : Int) < (i : Int)) = true → IntKind.i64.wrap ((i : Int) - 1) = ((i - 1 : Nat) : Int) := fun h0 => wrap_p1 (by have := of_decide_eq_true h0; omega) (by simp only [maxL]; omega)
  have hi1 : i - 1 < l.length := by omega
  have hx1 : l[i - 1]? = some (l.getD (i - 1) dP) := by rw [List.getD, List.getElem?_eq_getElem hi1]; rfl
  have hia : ∀ k : IntKind, rias 3 (.slice tg 3 (l.map Piece.row)) (.int k ((i - 1 : Nat) : Int)) = some (.vptr 3 (l.map Piece.row) (i - 1) 0) := fun k => ias_row hi1
  have hT := fun H => run_Text M hB htx H
  have hN := fun H => run_Name M hB htm H
  rw [run_c M hB.truchmanref01_alone rfl (c := c_truchmanref01_alone) rfl, c_truchmanref01_alone]
  simp (maxSteps := 3000000) (maxDischargeDepth := 6) +contextual -implicitDefEqProofs only [amC M, ↓amD, Nat.reduceBEq, Nat.reduceAdd, env, fargs, q_truchmanref01_alone, amG, AV.cell, Nat.reduceMul, Nat.reduceLeDiff, hi, hx, ias_row hi, qPiece, hp_get0, hT, hN, hw1, hia, hx1, cut_app, hp_take, aloneE, argE, carE, frmE, namE, prevT]

/-! Where carried tags stand -/
def cw (x y : Piece) : Bool := opensP x && !opensP y || closesP y && !closesP x
theorem rdcl {l : List Piece} {tg : Tag} (hl : l.length ≤ 1000000) {i : Nat} {x : Piece} (hx : l[i]? = some x) {H H0 : List AObj} (hc : CutOk H0 H) (k : List Fra) : ∀ (n j : Nat) (He : List AObj), j + n = i →
    M.go a_truchmanref01_carried H0 (.c l_truchmanref01_carried_0 :: .lp ⟨(some [0, 1, 5]), [], false⟩ l_truchmanref01_carried_0 He :: .blk 0 :: .c (.lv []) :: k) (kv [(0, .slice tg 3 (l.map Piece.row)), (1, .int .i64 i), (5, .int .i64 j)]) H =
      sel (((l.take i).drop j).any (cw x)) (some (.ret (.int .u8 8), H.take H0.length)) (M.go a_truchmanref01_carried H0 k .leaf H)
  | 0, j, He, h => by
    obtain rfl : j = i := by omega
    have e : (l.take j).drop j = [] := List.drop_of_length_le (by simp; omega)
    rw [go_head M l_truchmanref01_carried_0.eq_1]
    simp (maxSteps := 3000000) (maxDischargeDepth := 6) +contextual -implicitDefEqProofs only [amC M, ↓amD, Nat.reduceBEq, Nat.reduceAdd, env, fargs, q_truchmanref01_carried, Nat.lt_irrefl, e, List.any_nil]
  | n + 1, j, He, h => by
    have hi : i < l.length := (List.getElem?_eq_some_iff.1 hx).1
    have hki : j < i := by omega
    have hkl : j < l.length := by omega
    have hy : l[j]? = some l[j] := List.getElem?_eq_getElem hkl
    have hd : (l.take i).drop j = l[j] :: (l.take i).drop (j + 1) := by
      rw [List.drop_eq_getElem_cons (by simp; omega), List.getElem_take]
    have ih := fun He => rdcl (tg := tg) hl hx hc k n (j + 1) He (by omega)
    have hws : IntKind.i64.wrap ((j : Int) + 1) = ((j + 1 : Nat) : Int) := wrap_s hkl (show l.length ≤ maxL by simp only [maxL]; omega)
    rw [hd, List.any_cons]
    generalize l[j] = y at hy
    have e1 : (y.car && (y.kind == 2)) = opensP y := Bool.and_comm _ _
    have e2 : (y.car && (y.kind == 3)) = closesP y := Bool.and_comm _ _
    have e3 : (x.car && (x.kind == 2)) = opensP x := Bool.and_comm _ _
    have e4 : (x.car && (x.kind == 3)) = closesP x := Bool.and_comm _ _
    simp only [kv_cons, kv_nil] at ih
    rw [go_head M l_truchmanref01_carried_0.eq_1]
    simp (maxSteps := 3000000) (maxDischargeDepth := 6) +contextual -implicitDefEqProofs only [amC M, ↓amD, Nat.reduceBEq, Nat.reduceAdd, env, fargs, q_truchmanref01_carried, hki, hx, hy, hi, hkl, ias_row hi, ias_row hkl, qPiece, hws, e1, e2, e3, e4, ih, hc, cw, slc_or, Bool.or_assoc]
def begF (l : List Piece) (i : Nat) : Bool := (l.take i).any fun y => !opensP y
def endF (l : List Piece) (i : Nat) : Bool := (l.take i).any closesP
theorem any_cw (x : Piece) : ∀ l : List Piece, l.any (cw x) = (opensP x && (l.any fun y => !opensP y) || l.any closesP && !closesP x)
  | [] => by simp
  | y :: l => by
    simp only [List.any_cons, any_cw x l, cw]
    cases opensP x <;> cases opensP y <;> cases closesP y <;> cases closesP x <;> simp
theorem run_carried (hB : BasE E) {l : List Piece} {tg : Tag} (hl : l.length ≤ 1000000) {i : Nat} {x : Piece} (hx : l[i]? = some x) (H : List AObj) :
    M.run f_truchmanref01_carried [.slice tg 3 (l.map Piece.row), .int .i64 i] H = some (.ret (.int .u8 (sel (takesB (begF l i) (endF l i) x) 0 8)), H) := by
  rw [run_c M hB.truchmanref01_carried rfl (c := c_truchmanref01_carried) rfl, c_truchmanref01_carried]
  have hlp := fun k He => rdcl M (tg := tg) hl hx (cut_refl H) k i 0 He (by omega)
  simp only [kv_cons, kv_nil, Int.ofNat_zero, List.drop_zero, any_cw] at hlp
  have e : takesB (begF l i) (endF l i) x = !(opensP x && ((l.take i).any fun y => !opensP y) || (l.take i).any closesP && !closesP x) := rfl
  rw [e]
  simp (maxSteps := 3000000) (maxDischargeDepth := 6) +contextual -implicitDefEqProofs only [amC M, ↓amD, Nat.reduceBEq, Nat.reduceAdd, env, fargs, q_truchmanref01_carried, hlp]
theorem begF_succ {l : List Piece} {i : Nat} {x : Piece} (h : l[i]? = some x) : begF l (i + 1) = (begF l i || !opensP x) := by
  unfold begF; rw [List.take_add_one, h, List.any_append]; simp
theorem endF_succ {l : List Piece} {i : Nat} {x : Piece} (h : l[i]? = some x) : endF l (i + 1) = (endF l i || closesP x) := by
  unfold endF; rw [List.take_add_one, h, List.any_append]; simp

theorem rckl (hB : BasE E) {l : List Piece} {tg : Tag} (hl : l.length ≤ 1000000) (ht : TxtOk l) {H0 : List AObj} {k : List Fra}
    (hk : ∀ (G : List AObj) (v : AV) (st : List Str), StkV H0.length G v st → Pre H0 G → M.go a_truchmanref01_CheckPieces H0 k (kv [(3, v)]) G = some (.ret (.int .u8 (sel (decide ((0 : Int) < (st.length : Int))) 9 0)), H0)) :
    ∀ (n i : Nat) (G He : List AObj) (v : AV) (st : List Str), i + n = l.length → Pre H0 G → StkV H0.length G v st → st.length ≤ 16 →
    M.go a_truchmanref01_CheckPieces H0 (.c l_truchmanref01_CheckPieces_0 :: .lp ⟨(some [0, 3, 4]), [], false⟩ l_truchmanref01_CheckPieces_0 He :: .blk 0 :: .c (.lv [3]) :: k) (kv [(0, .slice tg 3 (l.map Piece.row)), (3, v), (4, .int .i64 i)]) G =
      some (.ret (.int .u8 (chkL (l.drop i) (prevT l i) (begF l i) (endF l i) st)), H0) := by
  intro n
  induction n with
  | zero =>
    intro i G He v st h hP hst h16
    obtain rfl : i = l.length := by omega
    rw [List.drop_length, chkL]
    have hk1 := hk G v st hst hP
    simp only [kv_cons, kv_nil] at hk1
    rw [go_head M l_truchmanref01_CheckPieces_0.eq_1]
    simp (maxSteps := 3000000) (maxDischargeDepth := 6) +contextual -implicitDefEqProofs only [amC M, ↓amD, Nat.reduceBEq, Nat.reduceAdd, env, fargs, q_truchmanref01_CheckPieces, Nat.lt_irrefl, hk1]
  | succ n IH =>
    intro i G He v st h hP hst h16
    have hi : i < l.length := by omega
    have hx : l[i]? = some l[i] := List.getElem?_eq_getElem hi
    have hd : l.drop i = l[i] :: l.drop (i + 1) := List.drop_eq_getElem_cons hi
    have hsu := prevT_succ hx
    have hbs := begF_succ hx
    have hes := endF_succ hx
    rw [hd]
    generalize l[i] = x at *
    have hws := wrap_s hi (show l.length ≤ maxL by simp only [maxL]; omega)
    have hA := fun H => run_alone M hB (tg := tg) hl ht hx H
    have hC := fun H => run_carried M hB (tg := tg) hl hx H
    have hct := hP.cut
    have htk := hP.take
    have hlen := len_stk hst
    rw [chkL]
    cases ha : argE x with
    | true =>
      have e : aloneE (prevT l i) x = 1 := by rw [aloneE, ha]; rfl
      rw [go_head M l_truchmanref01_CheckPieces_0.eq_1]
      simp (maxSteps := 3000000) (maxDischargeDepth := 6) +contextual -implicitDefEqProofs only [amC M, ↓amD, Nat.reduceBEq, Nat.reduceAdd, env, fargs, q_truchmanref01_CheckPieces, hi, hx, hA, e, hct, htk, (show ((1 : Int) == 0) = false from rfl)]
    | false =>
    simp only [sel_false]
    cases hca : carE x with
    | true =>
      have e : aloneE (prevT l i) x = 1 := by rw [aloneE, ha, hca]; rfl
      rw [go_head M l_truchmanref01_CheckPieces_0.eq_1]
      simp (maxSteps := 3000000) (maxDischargeDepth := 6) +contextual -implicitDefEqProofs only [amC M, ↓amD, Nat.reduceBEq, Nat.reduceAdd, env, fargs, q_truchmanref01_CheckPieces, hi, hx, hA, e, hct, htk, (show ((1 : Int) == 0) = false from rfl)]
    | false =>
    simp only [sel_false]
    cases hf : frmE (prevT l i) x with
    | true =>
      have e : aloneE (prevT l i) x = 4 := by rw [aloneE, ha, hca, hf]; rfl
      rw [go_head M l_truchmanref01_CheckPieces_0.eq_1]
      simp (maxSteps := 3000000) (maxDischargeDepth := 6) +contextual -implicitDefEqProofs only [amC M, ↓amD, Nat.reduceBEq, Nat.reduceAdd, env, fargs, q_truchmanref01_CheckPieces, hi, hx, hA, e, hct, htk, (show ((4 : Int) == 0) = false from rfl)]
    | false =>
    simp only [sel_false]
    cases hn : namE x with
    | true =>
      have e : aloneE (prevT l i) x = 5 := by rw [aloneE, ha, hca, hf, hn]; rfl
      rw [go_head M l_truchmanref01_CheckPieces_0.eq_1]
      simp (maxSteps := 3000000) (maxDischargeDepth := 6) +contextual -implicitDefEqProofs only [amC M, ↓amD, Nat.reduceBEq, Nat.reduceAdd, env, fargs, q_truchmanref01_CheckPieces, hi, hx, hA, e, hct, htk, (show ((5 : Int) == 0) = false from rfl)]
    | false =>
    simp only [sel_false]
    have e : aloneE (prevT l i) x = 0 := by rw [aloneE, ha, hca, hf, hn]; rfl
    cases htb : takesB (begF l i) (endF l i) x with
    | false =>
      rw [htb] at hC
      rw [go_head M l_truchmanref01_CheckPieces_0.eq_1]
      simp (maxSteps := 3000000) (maxDischargeDepth := 6) +contextual -implicitDefEqProofs only [amC M, ↓amD, Nat.reduceBEq, Nat.reduceAdd, env, fargs, q_truchmanref01_CheckPieces, hi, hx, hA, hC, e, hct, htk, beq_self_eq_true, (show ((8 : Int) == 0) = false from rfl)]
    | true =>
    rw [htb] at hC
    simp only [sel_true, sel_false] at hC ⊢
    cases h3 : x.kind == 3 with
    | true =>
      have h2 : (x.kind == 2) = false := by
        have : x.kind = 3 := by simpa using h3
        rw [this]; rfl
      cases st with
      | nil =>
        have hlen0 : ∀ H, rlen H .sl v = some (.int .i64 0) := hlen
        rw [go_head M l_truchmanref01_CheckPieces_0.eq_1]
        simp (maxSteps := 3000000) (maxDischargeDepth := 6) +contextual -implicitDefEqProofs only [amC M, ↓amD, Nat.reduceBEq, Nat.reduceAdd, env, fargs, q_truchmanref01_CheckPieces, hi, hx, ias_row hi, qPiece, hA, hC, e, h3, hlen0, popB, hct, htk, beq_self_eq_true]
      | cons y st =>
        obtain ⟨⟨q, o, cs, t1, t2, t3, t3'⟩, v', t4, t5⟩ := top_stk hst
        have hw : IntKind.i64.wrap ((((y :: st).length : Nat) : Int) - 1) = (st.length : Int) := by
          simp only [List.length_cons] at h16 ⊢
          rw [wrap_i64 (by omega) (by omega)]; omega
        have h0 : ((((y :: st).length : Nat) : Int) == 0) = false := by simp; omega
        cases hy : y == x.text with
        | false =>
          rw [go_head M l_truchmanref01_CheckPieces_0.eq_1]
          simp (maxSteps := 3000000) (maxDischargeDepth := 6) +contextual -implicitDefEqProofs only [amC M, ↓amD, Nat.reduceBEq, Nat.reduceAdd, env, fargs, q_truchmanref01_CheckPieces, hi, hx, ias_row hi, qPiece, hA, hC, e, h3, hlen, h0, hw, t1, t3, t3', hy, popB, hct, htk, beq_self_eq_true]
        | true =>
          have hstp : stP x (y :: st) = st := if_pos h3
          have ih := fun He => IH (i + 1) G He v' st (by omega) hP t5 (by simp at h16; omega)
          rw [hsu, hbs, hes] at ih
          simp only [kv_cons, kv_nil] at ih
          rw [go_head M l_truchmanref01_CheckPieces_0.eq_1]
          simp (maxSteps := 3000000) (maxDischargeDepth := 6) +contextual -implicitDefEqProofs only [amC M, ↓amD, Nat.reduceBEq, Nat.reduceAdd, env, fargs, q_truchmanref01_CheckPieces, hi, hx, ias_row hi, qPiece, hA, hC, e, h3, h2, hlen, h0, hw, t1, t3, t3', t4, hy, popB, hstp, hws, ih, beq_self_eq_true]
    | false =>
      have hstp : stP x st = st := if_neg (by rw [h3]; simp)
      cases h2 : x.kind == 2 with
      | false =>
        have ih := fun He => IH (i + 1) G He v st (by omega) hP hst h16
        rw [hsu, hbs, hes] at ih
        simp only [kv_cons, kv_nil] at ih
        rw [go_head M l_truchmanref01_CheckPieces_0.eq_1]
        simp (maxSteps := 3000000) (maxDischargeDepth := 6) +contextual -implicitDefEqProofs only [amC M, ↓amD, Nat.reduceBEq, Nat.reduceAdd, env, fargs, q_truchmanref01_CheckPieces, hi, hx, ias_row hi, qPiece, hA, hC, e, h3, h2, hstp, hws, ih, beq_self_eq_true]
      | true =>
        obtain ⟨v3, G3, p1, p2, p3, p4⟩ := ap_stk hst hP.1 (by omega) x.text
        have hP3 : Pre H0 G3 := ⟨Nat.le_trans hP.1 p3, fun j hj => by rw [p4 j hj]; exact hP.2 j hj⟩
        have c3 := hP3.cut
        have tk3 := hP3.take
        have hlen3 : ∀ H, rlen H .sl v3 = some (.int .i64 ((st.length + 1 : Nat) : Int)) := len_stk p2
        cases hgt : decide ((16 : Int) < ((x.text :: stP x st).length : Int)) with
        | true =>
          have hgt2 : decide ((16 : Int) < ((st.length + 1 : Nat) : Int)) = true := by rw [← hgt, hstp]; rfl
          rw [go_head M l_truchmanref01_CheckPieces_0.eq_1]
          simp (maxSteps := 3000000) (maxDischargeDepth := 6) +contextual -implicitDefEqProofs only [amC M, ↓amD, Nat.reduceBEq, Nat.reduceAdd, env, fargs, q_truchmanref01_CheckPieces, amG, AV.cell, Nat.reduceMul, Nat.reduceLeDiff, hi, hx, ias_row hi, qPiece, hA, hC, e, h3, h2, p1, hlen3, hgt2, c3, tk3, beq_self_eq_true]
        | false =>
          have hgt2 : decide ((16 : Int) < ((st.length + 1 : Nat) : Int)) = false := by rw [← hgt, hstp]; rfl
          have hle : (x.text :: st).length ≤ 16 := by have := of_decide_eq_false hgt2; simp only [List.length_cons]; omega
          have ih := fun He => IH (i + 1) G3 He v3 (x.text :: st) (by omega) hP3 p2 hle
          rw [hsu, hbs, hes] at ih
          simp only [kv_cons, kv_nil] at ih
          rw [go_head M l_truchmanref01_CheckPieces_0.eq_1]
          simp (maxSteps := 3000000) (maxDischargeDepth := 6) +contextual -implicitDefEqProofs only [amC M, ↓amD, Nat.reduceBEq, Nat.reduceAdd, env, fargs, q_truchmanref01_CheckPieces, amG, AV.cell, Nat.reduceMul, Nat.reduceLeDiff, hi, hx, ias_row hi, qPiece, hA, hC, e, h3, h2, p1, hlen3, hgt2, hstp, hws, ih, beq_self_eq_true]
theorem run_rCheckPieces (hB : BasE E) {l : Sl Piece} (hl : l.l.length ≤ 1000000) (ht : TxtOk l.l) (H : List AObj) :
    M.run f_truchmanref01_CheckPieces [.slice l.tag 3 (l.l.map Piece.row)] H = some (.ret (.int .u8 (checkP l.l)), H) := by
  rw [run_c M hB.truchmanref01_CheckPieces rfl (c := c_truchmanref01_CheckPieces) rfl, c_truchmanref01_CheckPieces]
  cases h5 : decide ((512 : Int) < (l.l.length : Int)) with
  | true => simp (maxSteps := 3000000) (maxDischargeDepth := 6) +contextual -implicitDefEqProofs only [amC M, ↓amD, Nat.reduceBEq, Nat.reduceAdd, env, fargs, q_truchmanref01_CheckPieces, h5, checkP]
  | false =>
    have hlp := fun k hk He => rckl M hB (tg := l.tag) hl ht (H0 := H) (k := k) hk l.l.length 0 H He (.slice .nil 1 []) [] (by omega) (Pre.refl H) (.inl ⟨rfl, rfl⟩) (by simp)
    simp only [kv_cons, kv_nil, Int.ofNat_zero, List.drop_zero, prevT_zero, (show begF l.l 0 = false from rfl), (show endF l.l 0 = false from rfl)] at hlp
    simp (maxSteps := 3000000) (maxDischargeDepth := 6) +contextual -implicitDefEqProofs only [amC M, ↓amD, Nat.reduceBEq, Nat.reduceAdd, env, fargs, q_truchmanref01_CheckPieces, h5, checkP]
    refine hlp _ (fun G v st hs hP => ?_) _
    have hlen := len_stk hs
    have hct := hP.cut
    have htk := hP.take
    simp (maxSteps := 3000000) (maxDischargeDepth := 6) +contextual -implicitDefEqProofs only [amC M, ↓amD, Nat.reduceBEq, Nat.reduceAdd, env, fargs, q_truchmanref01_CheckPieces, hlen, hct, htk]
end Go.Am
end

section
set_option linter.unusedSimpArgs false
set_option linter.unusedVariables false
set_option maxRecDepth 100000
set_option maxHeartbeats 4000000
namespace Go.Am
open Go.RowKit
attribute [local congr] dsel_congr sel_c1 slc_cong gsel_congr go_congr aft_congr aftD_congr condR_congr backR_congr inR_congr at2_congr
variable {E : REnv} (M : Mach cdec E)

/-! Of general use: tokens, equal lists of pieces -/
theorem st_addO {s t : Str} (h : s.length + t.length < 9223372036854775808) : astrOp .add s t = some (.str (s ++ t)) := if_pos h
theorem cut_tok {H0 : List AObj} (n m : Nat) (T : TypeId) (L : List AObj) : CutOk (H0 ++ [.tok n T]) (H0 ++ (.tok m T :: L)) := ⟨by simp, fun i x hi hx => by
  rw [List.length_append] at hi
  by_cases h : i < H0.length
  · rw [List.getElem?_append_left h] at hx ⊢; exact .inl hx
  · obtain rfl : i = H0.length := by simp at hi; omega
    rw [hp_get0] at hx
    obtain rfl := Option.some.inj hx
    exact .inr trivial⟩
theorem take_tok (H0 : List AObj) (o : AObj) (L : List AObj) : (H0 ++ (o :: L)).take (H0.length + 1) = H0 ++ [o] := by
  rw [show H0 ++ (o :: L) = (H0 ++ [o]) ++ L by simp, show H0.length + 1 = (H0 ++ [o]).length by simp, List.take_left]
theorem ap_ownL {α : Type} {row : α → List AV} {l : List α} {x : α} {r : List AV} {sz bytes : Nat} {e : TypeId} (H L : List AObj) (h1 : r.length = sz) (h2 : r.all AV.cell = true) (h3 : r.map AV.strip = row x)
    (hl : (l.length + 1) * bytes ≤ 140737488355328) (hl2 : l.length + 1 ≤ 4611686018427387904) :
    rap false (H ++ (.tok (l.length * sz) e :: L)) e sz bytes false (.slice (.own H.length) sz (l.map row)) (.slice .full sz [r]) = some (.slice (.own H.length) sz ((l ++ [x]).map row), H ++ (.tok ((l ++ [x]).length * sz) e :: L)) := by
  simp only [rap, rapp, rsrc, List.length_map, List.length_cons, List.length_nil, Nat.zero_add, or_true, if_true, hl, hl2, rowsOk_one h1 h2, and_true, true_and, hp_get0, List.getElem?_cons_zero, hp_set0, List.set_cons_zero, List.map_cons, List.map_nil, h3, List.map_append, List.length_append, Nat.add_mul, Nat.one_mul]
  rw [Nat.add_mul, Nat.one_mul] at hl
  rw [if_pos hl]
end Go.Am
end

section
set_option linter.unusedSimpArgs false
set_option linter.unusedVariables false
namespace Go.Am
open Go.RowKit

/-! Units and items of patterns (printed by structs.py of Doc2.spec) -/
structure Un where
  r : Int
  hole : Bool

def Un.row (x : Un) : List AV := [.int .i32 x.r, .bool x.hole]
theorem qUn : (∀ x : Un, takeO 2 (Un.row x) = some (Un.row x)) ∧ (∀ x : Un, rload none (Un.row x) 0 = some (.int .i32 x.r)) ∧ (∀ x : Un, rload none (Un.row x) 1 = some (.bool x.hole)) ∧ (∀ x : Un, (Un.row x).length = 2) ∧ (∀ x : Un, (Un.row x).all AV.cell = true) ∧ (∀ x : Un, ∀ c0 c1 : AV, setRow [c0, c1] 0 (Un.row x) = Un.row x) ∧ (∀ x : Un, ∀ y : Un, setRow (Un.row y) 0 (Un.row x) = Un.row x) ∧ (∀ x : Un, ∀ (y : Int), setRow (Un.row x) 0 [.int .i32 y] = Un.row { x with r := y }) ∧ (∀ x : Un, ∀ (y : Bool), setRow (Un.row x) 1 [.bool y] = Un.row { x with hole := y }) ∧ (∀ x : Un, (Un.row x).map AV.strip = Un.row x) ∧ (∀ x : Un, (Un.row x).take 2 = Un.row x) ∧ (∀ x : Un, (Un.row x).drop 2 = []) :=
  by refine ⟨?_, ?_, ?_, ?_, ?_, ?_, ?_, ?_, ?_, ?_, ?_, ?_⟩ <;> (intros; first | rfl | (simp only [Un.row]; rfl) | (simp only [Un.row, strip_map]; rfl))
structure Un.ok (n : Nat) (x : Un) : Prop where
  triv : True

theorem Un.ok.mono {n m : Nat} {x : Un} (h : x.ok n) (hn : n ≤ m) : x.ok m := ⟨trivial⟩
theorem Un.ok.wk {n : Nat} {x : Un} (h : x.ok n) : WkL n x.row x.row := ⟨wk_int _ _ _, wk_bool _ _, trivial⟩

structure Fit where
  cls : Bool
  r : Int

def Fit.row (x : Fit) : List AV := [.bool x.cls, .int .i32 x.r]
structure Fit.ok (n : Nat) (x : Fit) : Prop where
  triv : True

theorem Fit.ok.mono {n m : Nat} {x : Fit} (h : x.ok n) (hn : n ≤ m) : x.ok m := ⟨trivial⟩
theorem Fit.ok.wk {n : Nat} {x : Fit} (h : x.ok n) : WkL n x.row x.row := ⟨wk_bool _ _, wk_int _ _ _, trivial⟩

end Go.Am
end

section
set_option linter.unusedSimpArgs false
set_option linter.unusedVariables false
set_option maxRecDepth 100000
set_option maxHeartbeats 4000000
namespace Go.Am
open Go.RowKit
attribute [local congr] dsel_congr sel_c1 slc_cong gsel_congr go_congr aft_congr aftD_congr condR_congr backR_congr inR_congr at2_congr
variable {E : REnv} (M : Mach cdec E)

/-! Classes of units -/
structure BrkE (E : REnv) : Prop where
  docs_unit_letter : E.fn f_docs_unit_letter = some a_docs_unit_letter
  docs_unit_digit : E.fn f_docs_unit_digit = some a_docs_unit_digit
  docs_unit_blank : E.fn f_docs_unit_blank = some a_docs_unit_blank
  docs_unit_mark : E.fn f_docs_unit_mark = some a_docs_unit_mark
  docs_unit_word : E.fn f_docs_unit_word = some a_docs_unit_word
  docs_items_1 : E.fn f_docs_items_1 = some a_docs_items_1
  docs_items_2 : E.fn f_docs_items_2 = some a_docs_items_2
  docs_items_3 : E.fn f_docs_items_3 = some a_docs_items_3
  docs_items_4 : E.fn f_docs_items_4 = some a_docs_items_4
  docs_items_5 : E.fn f_docs_items_5 = some a_docs_items_5
  docs_items_6 : E.fn f_docs_items_6 = some a_docs_items_6
  docs_items : E.fn f_docs_items = some a_docs_items
  docs_compiled : E.fn f_docs_compiled = some a_docs_compiled
  docs_edge : E.fn f_docs_edge = some a_docs_edge
  docs_ahead : E.fn f_docs_ahead = some a_docs_ahead
  docs_behind : E.fn f_docs_behind = some a_docs_behind
  docs_rule_fits : E.fn f_docs_rule_fits = some a_docs_rule_fits
  docs_places : E.fn f_docs_places = some a_docs_places
  docs_Breaks : E.fn f_docs_Breaks = some a_docs_Breaks
  docs_Fits : E.fn f_docs_Fits = some a_docs_Fits
  docs_Units : E.fn f_docs_Units = some a_docs_Units
  docs_CheckBreaks : E.fn f_docs_CheckBreaks = some a_docs_CheckBreaks
  docs_units : E.fn f_docs_units = some a_docs_units
  slices_AppendSeq_docs_unit_docs_unit : E.fn f_slices_AppendSeq_docs_unit_docs_unit = some a_slices_AppendSeq_docs_unit_docs_unit
  slices_Collect_docs_unit : E.fn f_slices_Collect_docs_unit = some a_slices_Collect_docs_unit
  truchmanref01_fits : E.fn f_truchmanref01_fits = some a_truchmanref01_fits
  truchmanref01_CheckBreaks : E.fn f_truchmanref01_CheckBreaks = some a_truchmanref01_CheckBreaks
  truchmanref01_units : E.fn f_truchmanref01_units = some a_truchmanref01_units
  truchmanref01_width : E.fn f_truchmanref01_width = some a_truchmanref01_width
  truchmanref01_letter : E.fn f_truchmanref01_letter = some a_truchmanref01_letter
  truchmanref01_digit : E.fn f_truchmanref01_digit = some a_truchmanref01_digit
  truchmanref01_inWord : E.fn f_truchmanref01_inWord = some a_truchmanref01_inWord
  truchmanref01_edge : E.fn f_truchmanref01_edge = some a_truchmanref01_edge
  truchmanref01_mark : E.fn f_truchmanref01_mark = some a_truchmanref01_mark
  truchmanref01_one : E.fn f_truchmanref01_one = some a_truchmanref01_one
  truchmanref01_behind : E.fn f_truchmanref01_behind = some a_truchmanref01_behind
  truchmanref01_Fits : E.fn f_truchmanref01_Fits = some a_truchmanref01_Fits
  truchmanref01_Plain : E.fn f_truchmanref01_Plain = some a_truchmanref01_Plain
  truchmanref01_Units : E.fn f_truchmanref01_Units = some a_truchmanref01_Units
  truchmanref01_breaks : E.fn f_truchmanref01_breaks = some a_truchmanref01_breaks
  truchmanref01_Breaks : E.fn f_truchmanref01_Breaks = some a_truchmanref01_Breaks
  truchmanlaw01_strict : E.fn f_truchmanlaw01_strict = some a_truchmanlaw01_strict
  truchmanlaw01_ints : E.fn f_truchmanlaw01_ints = some a_truchmanlaw01_ints
  truchmanlaw01_DocsBreaks : E.fn f_truchmanlaw01_DocsBreaks = some a_truchmanlaw01_DocsBreaks
  truchmanlaw01_DocsFits : E.fn f_truchmanlaw01_DocsFits = some a_truchmanlaw01_DocsFits

def uletter (u : Un) : Bool := !u.hole && (decide (65 ≤ u.r) && decide (u.r ≤ 90) || decide (97 ≤ u.r) && decide (u.r ≤ 122) || decide (127 < u.r))
def udigit (u : Un) : Bool := !u.hole && decide (48 ≤ u.r) && decide (u.r ≤ 57)
def ublank (u : Un) : Bool := !u.hole && (u.r == 32)
def umark (u : Un) : Bool := !u.hole && !uletter u && !udigit u && !ublank u
def uword (u : Un) : Bool := u.hole || uletter u || udigit u

theorem run_dletter (hU : BrkE E) (u : Un) (H : List AObj) : M.run f_docs_unit_letter [.agg u.row] H = some (.ret (.bool (uletter u)), H) := by
  rw [run_c M hU.docs_unit_letter rfl (c := c_docs_unit_letter) rfl, c_docs_unit_letter]
  cases hh : u.hole <;> simp (maxSteps := 3000000) (maxDischargeDepth := 6) +contextual -implicitDefEqProofs only [amC M, ↓amD, Nat.reduceBEq, Nat.reduceAdd, env, fargs, q_docs_unit_letter, amG, AV.cell, Nat.reduceMul, Nat.reduceLeDiff, qUn, hp_get0, hh, uletter, cut_app, hp_take]
theorem run_ddigit (hU : BrkE E) (u : Un) (H : List AObj) : M.run f_docs_unit_digit [.agg u.row] H = some (.ret (.bool (udigit u)), H) := by
  rw [run_c M hU.docs_unit_digit rfl (c := c_docs_unit_digit) rfl, c_docs_unit_digit]
  cases hh : u.hole <;> simp (maxSteps := 3000000) (maxDischargeDepth := 6) +contextual -implicitDefEqProofs only [amC M, ↓amD, Nat.reduceBEq, Nat.reduceAdd, env, fargs, q_docs_unit_digit, amG, AV.cell, Nat.reduceMul, Nat.reduceLeDiff, qUn, hp_get0, hh, udigit, cut_app, hp_take]
theorem run_dblank (hU : BrkE E) (u : Un) (H : List AObj) : M.run f_docs_unit_blank [.agg u.row] H = some (.ret (.bool (ublank u)), H) := by
  rw [run_c M hU.docs_unit_blank rfl (c := c_docs_unit_blank) rfl, c_docs_unit_blank]
  cases hh : u.hole <;> simp (maxSteps := 3000000) (maxDischargeDepth := 6) +contextual -implicitDefEqProofs only [amC M, ↓amD, Nat.reduceBEq, Nat.reduceAdd, env, fargs, q_docs_unit_blank, amG, AV.cell, Nat.reduceMul, Nat.reduceLeDiff, qUn, hp_get0, hh, ublank, cut_app, hp_take]
theorem run_dmark (hU : BrkE E) (u : Un) (H : List AObj) : M.run f_docs_unit_mark [.agg u.row] H = some (.ret (.bool (umark u)), H) := by
  rw [run_c M hU.docs_unit_mark rfl (c := c_docs_unit_mark) rfl, c_docs_unit_mark]
  cases hh : u.hole <;> simp (maxSteps := 3000000) (maxDischargeDepth := 6) +contextual -implicitDefEqProofs only [amC M, ↓amD, Nat.reduceBEq, Nat.reduceAdd, env, fargs, q_docs_unit_mark, amG, AV.cell, Nat.reduceMul, Nat.reduceLeDiff, qUn, hp_get0, hh, umark, cut_app, hp_take, run_dletter M hU, run_ddigit M hU, run_dblank M hU]
theorem run_dword (hU : BrkE E) (u : Un) (H : List AObj) : M.run f_docs_unit_word [.agg u.row] H = some (.ret (.bool (uword u)), H) := by
  rw [run_c M hU.docs_unit_word rfl (c := c_docs_unit_word) rfl, c_docs_unit_word]
  cases hh : u.hole <;> simp (maxSteps := 3000000) (maxDischargeDepth := 6) +contextual -implicitDefEqProofs only [amC M, ↓amD, Nat.reduceBEq, Nat.reduceAdd, env, fargs, q_docs_unit_word, amG, AV.cell, Nat.reduceMul, Nat.reduceLeDiff, qUn, hp_get0, hh, uword, cut_app, hp_take, run_dletter M hU, run_ddigit M hU]
/-! Edges of words -/
def uAt (l : List Un) (i : Nat) : Bool := match l[i]? with
  | some u => uword u
  | none => false
def edgeU (l : List Un) (n : Nat) : Bool := decide (n = 0) || decide (n = l.length) || !uAt l (n - 1) || !uAt l n
theorem run_dedge (hU : BrkE E) {l : List Un} {t : Tag} {n : Nat} (hl : l.length ≤ maxL) (hn : n ≤ l.length) (H : List AObj) :
    M.run f_docs_edge [.slice t 2 (l.map Un.row), .int .i64 n] H = some (.ret (.bool (edgeU l n)), H) := by
  rw [run_c M hU.docs_edge rfl (c := c_docs_edge) rfl, c_docs_edge]
  cases n with
  | zero => simp (maxSteps := 3000000) (maxDischargeDepth := 6) +contextual -implicitDefEqProofs only [amC M, ↓amD, Nat.reduceBEq, Nat.reduceAdd, env, fargs, q_docs_edge, edgeU, (show (((0 : Nat) : Int) == 0) = true from rfl)]
  | succ n =>
    have h0 : (((n + 1 : Nat) : Int) == 0) = false := by simp; omega
    by_cases hL : n + 1 = l.length
    · have h1 : (n + 1 == l.length) = true := by simp [hL]
      rw [show edgeU l (n + 1) = true by simp [edgeU, hL]]
      simp (maxSteps := 3000000) (maxDischargeDepth := 6) +contextual -implicitDefEqProofs only [amC M, ↓amD, Nat.reduceBEq, Nat.reduceAdd, env, fargs, q_docs_edge, h0, h1]
    · have h1 : (n + 1 == l.length) = false := by simp; omega
      have hl' : l.length ≤ 9223372036854775807 := Nat.le_trans hl (by decide)
      have hw : IntKind.i64.wrap (((n + 1 : Nat) : Int) - 1) = (n : Int) := by rw [show ((n + 1 : Nat) : Int) - 1 = (n : Int) by omega]; exact wrap_i64 (by omega) (by omega)
      have hi0 : n < l.length := by omega
      have hi1 : n + 1 < l.length := by omega
      have e0 := List.getElem?_eq_getElem hi0
      have e1 := List.getElem?_eq_getElem hi1
      have i0 := ias_row (row := Un.row) (tag := t) (sz := 2) (k := .i64) hi0
      have i1 := ias_row (row := Un.row) (tag := t) (sz := 2) (k := .i64) hi1
      rw [show edgeU l (n + 1) = (!uword l[n] || !uword l[n + 1]) by simp [edgeU, uAt, hL, e0, e1]]
      simp (maxSteps := 3000000) (maxDischargeDepth := 6) +contextual -implicitDefEqProofs only [amC M, ↓amD, Nat.reduceBEq, Nat.reduceAdd, env, fargs, q_docs_edge, h0, h1, hw, i0, i1, e0, e1, qUn, run_dword M hU]
end Go.Am
end

section
set_option linter.unusedSimpArgs false
set_option linter.unusedVariables false
set_option maxRecDepth 100000
set_option maxHeartbeats 4000000
namespace Go.Am
open Go.RowKit
attribute [local congr] dsel_congr sel_c1 slc_cong gsel_congr go_congr aft_congr aftD_congr condR_congr backR_congr inR_congr at2_congr
variable {E : REnv} (M : Mach cdec E)

/-! Items of patterns: the specification's -/
def oneF (x : Fit) (u : Un) : Bool :=
  sel x.cls (sel (x.r == 97) (uletter u) (sel (x.r == 117) (!u.hole && decide (65 ≤ u.r) && decide (u.r ≤ 90)) (sel (x.r == 108) (!u.hole && decide (97 ≤ u.r) && decide (u.r ≤ 122)) (sel (x.r == 100) (udigit u) (sel (x.r == 115) (ublank u) (sel (x.r == 112) (umark u) (sel (x.r == 104) u.hole (sel (x.r == 37) (!u.hole && (u.r == 37)) true)))))))) (!u.hole && (u.r == x.r))
def edgB (x : Fit) : Bool := x.cls && (x.r == 98)
def behF (l : List Un) : List Fit → Nat → Bool
  | [], _ => true
  | x :: xs, a => sel (edgB x) (edgeU l a && behF l xs a) (match l[a]? with
    | some u => oneF x u && behF l xs (a + 1)
    | none => false)
def widF : List Fit → Nat
  | [] => 0
  | x :: xs => (if edgB x then 0 else 1) + widF xs
end Go.Am
end

section
set_option linter.unusedSimpArgs false
set_option linter.unusedVariables false
set_option maxRecDepth 100000
set_option maxHeartbeats 4000000
namespace Go.Am
open Go.RowKit
attribute [local congr] dsel_congr sel_c1 slc_cong gsel_congr go_congr aft_congr aftD_congr condR_congr backR_congr inR_congr at2_congr
variable {E : REnv} (M : Mach cdec E)

/-! The units of a list: the specification's -/
def unR (r : Nat) : Un := ⟨(r : Int), false⟩
def unH : Un := ⟨0, true⟩
def unP (x : Piece) : List Un := sel (x.kind == 5) [unH] (sel (x.kind == 1) ((runesL x.text).map unR) [])
def unL (l : List Piece) : List Un := (l.map unP).flatten
theorem unP_len (x : Piece) : (unP x).length ≤ x.text.length + 1 := by
  have := runesL_len x.text
  unfold unP
  cases x.kind == 5 with
  | true => rw [sel_true]; simp
  | false =>
    rw [sel_false]
    cases x.kind == 1 with
    | true => rw [sel_true]; simp; omega
    | false => rw [sel_false]; simp
theorem rul0 {H H0 : List AObj} {l : List Piece} {tg : Tag} {rs : List Nat} (hrs : rs.length ≤ maxL) {j : Int} (k : List Fra) : ∀ (n i : Nat) (o : List Un) (He : List AObj), i + n = rs.length → o.length + n ≤ 1000000 →
    M.go a_truchmanref01_units H0 (.c l_truchmanref01_units_0 :: .lp ⟨(some [0, 3, 4, 5, 6]), [(3, 2, t_truchmanref01_Unit)], false⟩ l_truchmanref01_units_0 He :: .blk 2 :: .c (.lv [0, 3, 4]) :: k) (kv [(0, .slice tg 3 (l.map Piece.row)), (3, .slice (.own H.length) 2 (o.map Un.row)), (4, .int .i64 j), (5, .slice .any 1 (rs.map runeRow)), (6, .int .i64 i)]) (H ++ [.tok (o.length * 2) t_truchmanref01_Unit]) =
      M.go a_truchmanref01_units H0 k (kv [(0, .slice tg 3 (l.map Piece.row)), (3, .slice (.own H.length) 2 ((o ++ (rs.drop i).map unR).map Un.row)), (4, .int .i64 j)]) (H ++ [.tok ((o ++ (rs.drop i).map unR).length * 2) t_truchmanref01_Unit])
  | 0, i, o, He, h, ho => by
    have e : i = rs.length := by omega
    subst e
    rw [go_head M l_truchmanref01_units_0.eq_1]
    simp (maxSteps := 3000000) (maxDischargeDepth := 6) +contextual -implicitDefEqProofs only [amC M, ↓amD, Nat.reduceBEq, Nat.reduceAdd, env, fargs, q_truchmanref01_units, Nat.lt_irrefl, List.drop_length, List.map_nil, List.append_nil]
  | n + 1, i, o, He, h, ho => by
    have hi : i < rs.length := by omega
    have hx : rs[i]? = some rs[i] := List.getElem?_eq_getElem hi
    have hd : (rs.drop i) = rs[i] :: rs.drop (i + 1) := List.drop_eq_getElem_cons hi
    have ap := fun L => ap_ownL (row := Un.row) (l := o) (x := unR rs[i]) (r := [.int .i32 (rs[i] : Int), .bool false]) (sz := 2) (bytes := 8) (e := t_truchmanref01_Unit) H L rfl rfl rfl (by omega) (by omega)
    have ih := fun He => rul0 (H := H) (H0 := H0) (l := l) (tg := tg) hrs (j := j) k n (i + 1) (o ++ [unR rs[i]]) He (by omega) (by simp; omega)
    simp only [kv_cons, kv_nil] at ih
    rw [hd, List.map_cons, show o ++ unR rs[i] :: (rs.drop (i + 1)).map unR = o ++ [unR rs[i]] ++ (rs.drop (i + 1)).map unR by simp]
    rw [go_head M l_truchmanref01_units_0.eq_1]
    simp (maxSteps := 3000000) (maxDischargeDepth := 6) +contextual -implicitDefEqProofs only [amC M, ↓amD, Nat.reduceBEq, Nat.reduceAdd, env, fargs, q_truchmanref01_units, amG, AV.cell, Nat.reduceMul, Nat.reduceLeDiff, hi, hx, ap, ih, ias_row hi, qRune, wrap_s hi hrs]
theorem rul1 {H H0 : List AObj} {l : List Piece} {tg : Tag} (hl : l.length ≤ 100000) (ht : TxtOk l) (k : List Fra) : ∀ (n i : Nat) (o : List Un) (He : List AObj), i + n = l.length → o.length + (unL (l.drop i)).length ≤ 1000000 →
    M.go a_truchmanref01_units H0 (.c l_truchmanref01_units_1 :: .lp ⟨(some [0, 3, 4]), [(3, 2, t_truchmanref01_Unit)], false⟩ l_truchmanref01_units_1 He :: .blk 0 :: .c (.lv [3]) :: k) (kv [(0, .slice tg 3 (l.map Piece.row)), (3, .slice (.own H.length) 2 (o.map Un.row)), (4, .int .i64 i)]) (H ++ [.tok (o.length * 2) t_truchmanref01_Unit]) =
      M.go a_truchmanref01_units H0 k (kv [(3, .slice (.own H.length) 2 ((o ++ unL (l.drop i)).map Un.row))]) (H ++ [.tok ((o ++ unL (l.drop i)).length * 2) t_truchmanref01_Unit])
  | 0, i, o, He, h, ho => by
    have e : i = l.length := by omega
    subst e
    rw [go_head M l_truchmanref01_units_1.eq_1]
    simp (maxSteps := 3000000) (maxDischargeDepth := 6) +contextual -implicitDefEqProofs only [amC M, ↓amD, Nat.reduceBEq, Nat.reduceAdd, env, fargs, q_truchmanref01_units, Nat.lt_irrefl, List.drop_length, unL, List.map_nil, List.flatten_nil, List.append_nil]
  | n + 1, i, o, He, h, ho => by
    have hi : i < l.length := by omega
    have hx : l[i]? = some l[i] := List.getElem?_eq_getElem hi
    have hd : (l.drop i) = l[i] :: l.drop (i + 1) := List.drop_eq_getElem_cons hi
    have hm : l[i] ∈ l := List.getElem_mem hi
    have hwi := wrap_s (n := l.length) hi (by simp only [maxL]; omega)
    have hul : unL (l.drop i) = unP l[i] ++ unL (l.drop (i + 1)) := by rw [hd]; rfl
    rw [hul] at ho ⊢
    rw [List.length_append] at ho
    rw [← List.append_assoc]
    have ih := fun He => rul1 (H := H) (H0 := H0) (tg := tg) hl ht k n (i + 1) (o ++ unP l[i]) He (by omega) (by rw [List.length_append]; omega)
    simp only [kv_cons, kv_nil] at ih
    cases h5 : l[i].kind == 5 with
    | true =>
      have h1 : (l[i].kind == 1) = false := by rw [eq_of_beq h5]; rfl
      have hu : unP l[i] = [unH] := by rw [unP, h5, sel_true]
      rw [hu] at ih ho ⊢
      have ap := fun L => ap_ownL (row := Un.row) (l := o) (x := unH) (r := [.int .i32 0, .bool true]) (sz := 2) (bytes := 8) (e := t_truchmanref01_Unit) H L rfl rfl rfl (by simp at ho; omega) (by simp at ho; omega)
      rw [go_head M l_truchmanref01_units_1.eq_1]
      simp (maxSteps := 3000000) (maxDischargeDepth := 6) +contextual -implicitDefEqProofs only [amC M, ↓amD, Nat.reduceBEq, Nat.reduceAdd, env, fargs, q_truchmanref01_units, amG, AV.cell, Nat.reduceMul, Nat.reduceLeDiff, hi, hx, h5, h1, ap, ih, ias_row hi, qPiece, hwi]
    | false =>
      cases h1 : l[i].kind == 1 with
      | false =>
        have hu : unP l[i] = [] := by rw [unP, h5, sel_false, h1, sel_false]
        rw [hu, List.append_nil] at ih ⊢
        rw [go_head M l_truchmanref01_units_1.eq_1]
        simp (maxSteps := 3000000) (maxDischargeDepth := 6) +contextual -implicitDefEqProofs only [amC M, ↓amD, Nat.reduceBEq, Nat.reduceAdd, env, fargs, q_truchmanref01_units, amG, AV.cell, Nat.reduceMul, Nat.reduceLeDiff, hi, hx, h5, h1, ih, ias_row hi, qPiece, hwi]
      | true =>
        have hu : unP l[i] = (runesL l[i].text).map unR := by rw [unP, h5, sel_false, h1, sel_true]
        rw [hu] at ih ho ⊢
        have hrl := runesL_len l[i].text
        have htx := ht _ hm
        have h0 := fun k He => rul0 M (H := H) (H0 := H0) (l := l) (tg := tg) (rs := runesL l[i].text) (by simp only [maxL]; omega) (j := (i : Int)) k (runesL l[i].text).length 0 o He (by omega) (by simp at ho; omega)
        simp only [kv_cons, kv_nil, List.drop_zero, Int.ofNat_zero] at h0
        rw [go_head M l_truchmanref01_units_1.eq_1]
        simp (maxSteps := 3000000) (maxDischargeDepth := 6) +contextual -implicitDefEqProofs only [amC M, ↓amD, Nat.reduceBEq, Nat.reduceAdd, env, fargs, q_truchmanref01_units, amG, AV.cell, Nat.reduceMul, Nat.reduceLeDiff, hi, hx, h5, h1, h0, ih, ias_row hi, qPiece, hwi, rcvsr_R htx]
theorem uns_wk (n : Nat) (l : List Un) : RowsWk n (l.map Un.row) := by
  rw [rowsWk_map]; exact fun _ _ => ⟨wk_int _ _ _, wk_bool _ _, trivial⟩
theorem run_runits (hU : BrkE E) {l : List Piece} {tg : Tag} (hl : l.length ≤ 100000) (ht : TxtOk l) (hu : (unL l).length ≤ 1000000) (H : List AObj) :
    M.run f_truchmanref01_units [.slice tg 3 (l.map Piece.row)] H = some (.ret (.slice .any 2 ((unL l).map Un.row)), H) := by
  rw [run_c M hU.truchmanref01_units rfl (c := c_truchmanref01_units) rfl, c_truchmanref01_units]
  have h1 := fun k => rul1 M (H := H) (H0 := H) (tg := tg) hl ht k l.length 0 [] (H ++ [.tok 0 t_truchmanref01_Unit]) (by omega) (by simpa using hu)
  simp only [kv_cons, kv_nil, Int.ofNat_zero, List.drop_zero, List.nil_append, List.length_nil, Nat.zero_mul, List.map_nil] at h1
  have hh := handV_drop (cut_app H [.tok ((unL l).length * 2) t_truchmanref01_Unit]) (wk_any (esz := 2) (tag := .own H.length) (uns_wk H.length (unL l)))
  rw [anyV_slice, hp_take] at hh
  simp (maxSteps := 3000000) (maxDischargeDepth := 6) +contextual -implicitDefEqProofs only [amC M, ↓amD, Nat.reduceBEq, Nat.reduceAdd, env, fargs, q_truchmanref01_units, h1, hh]

end Go.Am
end

section
set_option linter.unusedSimpArgs false
set_option linter.unusedVariables false
set_option maxRecDepth 100000
set_option maxHeartbeats 4000000
namespace Go.Am
open Go.RowKit
attribute [local congr] dsel_congr sel_c1 slc_cong gsel_congr go_congr aft_congr aftD_congr condR_congr backR_congr inR_congr at2_congr
variable {E : REnv} (M : Mach cdec E)

/-! The items of a pattern: the specification's -/
def isCls (c : Nat) : Bool := [97, 117, 108, 100, 115, 112, 104, 46, 37, 98].contains c
def fitA : Nat → List Fit → List Nat → Option (List Fit)
  | 0, _, _ => none
  | _ + 1, o, [] => some o
  | n + 1, o, r :: t => if r = 37 then (match t with
    | [] => none
    | c :: t => if isCls c then fitA n (o ++ [⟨true, (c : Int)⟩]) t else none) else fitA n (o ++ [⟨false, (r : Int)⟩]) t
def fitL (l : List Nat) : Option (List Fit) := fitA (l.length + 1) [] l
def fitV : Option (List Fit) → AV
  | none => .tuple [.slice .any 2 [], .bool false]
  | some l => .tuple [.slice .any 2 (l.map Fit.row), .bool true]
theorem fts_wk (n : Nat) (l : List Fit) : RowsWk n (l.map Fit.row) := by
  rw [rowsWk_map]; exact fun _ _ => ⟨wk_bool _ _, wk_int _ _ _, trivial⟩
theorem rns_wk (n : Nat) (l : List Nat) : RowsWk n (l.map runeRow) := by
  rw [rowsWk_map]; exact fun _ _ => ⟨wk_int _ _ _, trivial⟩
theorem rfl0 {H0 : List AObj} {rs : List Nat} (hrs : rs.length ≤ 1000000) {k : List Fra}
    (hk : ∀ o : List Fit, o.length ≤ rs.length → M.go a_truchmanref01_fits H0 k (kv [(5, .slice (.own H0.length) 2 (o.map Fit.row))]) (H0 ++ [.tok (o.length * 2) t_truchmanref01_Fit]) = some (.ret (fitV (some o)), H0)) :
    ∀ (n i : Nat) (o : List Fit), rs.length - i < n → i ≤ rs.length → o.length ≤ i →
    M.go a_truchmanref01_fits H0 (.c l_truchmanref01_fits_0 :: .lp ⟨some [4, 5, 6], [(5, 2, t_truchmanref01_Fit)], true⟩ l_truchmanref01_fits_0 (H0 ++ [.tok (o.length * 2) t_truchmanref01_Fit]) :: .blk 0 :: .c (.lv [5]) :: k) (kv [(4, .slice .any 1 (rs.map runeRow)), (5, .slice (.own H0.length) 2 (o.map Fit.row)), (6, .int .i64 i)]) (H0 ++ [.tok (o.length * 2) t_truchmanref01_Fit]) =
      some (.ret (fitV (fitA n o (rs.drop i))), H0) := by
  intro n
  induction n with
  | zero => intro i o h; omega
  | succ n IH =>
    intro i o h hi hol
    have w1 : Wk (H0.length + 1) (.slice .any 1 (rs.map runeRow)) (.slice .any 1 (rs.map runeRow)) := wk_slice trivial (rns_wk _ _)
    have w2 := fun l : List Fit => wk_slice (n := H0.length + 1) (esz := 2) (tag := .own H0.length) (by simp [tagLt]) (fts_wk _ l)
    have gk : ∀ L : List AObj, (H0 ++ L)[H0.length + 1]? = L[1]? := fun L => hp_getk H0 L 1
    have sk : ∀ (L : List AObj) (x : AObj), (H0 ++ L).set (H0.length + 1) x = H0 ++ L.set 1 x := fun L x => hp_setk H0 L 1 x
    by_cases he : i = rs.length
    · subst he
      rw [List.drop_length, fitA]
      have h1 := hk o hol
      simp only [kv_cons, kv_nil] at h1
      rw [go_head M l_truchmanref01_fits_0.eq_1]
      simp (maxSteps := 3000000) (maxDischargeDepth := 6) +contextual -implicitDefEqProofs only [amC M, ↓amD, Nat.reduceBEq, Nat.reduceAdd, env, fargs, q_truchmanref01_fits, Nat.lt_irrefl, h1]
    · have hlt : i < rs.length := by omega
      have hx : rs[i]? = some rs[i] := List.getElem?_eq_getElem hlt
      have hd : (rs.drop i) = rs[i] :: rs.drop (i + 1) := List.drop_eq_getElem_cons hlt
      have hw1 := wrap_s (n := rs.length) hlt (by simp only [maxL]; omega)
      have hi1 := ias_row (row := runeRow) (tag := .any) (sz := 1) (k := .i64) hlt
      rw [hd, fitA.eq_def]
      dsimp only
      by_cases h37 : rs[i] = 37
      · rw [if_pos h37]
        have e37 : (((rs[i] : Nat) : Int) == 37) = true := by rw [h37]; rfl
        by_cases he2 : i + 1 = rs.length
        · rw [List.drop_of_length_le (by omega)]
          simp only [fitV]
          have hq : (i + 1 == rs.length) = true := by simp [he2]
          rw [go_head M l_truchmanref01_fits_0.eq_1]
          simp (maxSteps := 3000000) (maxDischargeDepth := 6) +contextual -implicitDefEqProofs only [amC M, ↓amD, Nat.reduceBEq, Nat.reduceAdd, env, fargs, q_truchmanref01_fits, amG, AV.cell, Nat.reduceMul, Nat.reduceLeDiff, hlt, hx, hw1, hi1, qRune, e37, hq, gk, sk, List.getElem?_cons_succ, List.set_cons_succ, cut_app, hp_take, rowsWk_nil, wk_tuple]
          try rfl
        · have hlt2 : i + 1 < rs.length := by omega
          have hx2 : rs[i + 1]? = some rs[i + 1] := List.getElem?_eq_getElem hlt2
          have hd2 : (rs.drop (i + 1)) = rs[i + 1] :: rs.drop (i + 2) := List.drop_eq_getElem_cons hlt2
          have hi2 := ias_row (row := runeRow) (tag := .any) (sz := 1) (k := .i64) hlt2
          have hw2 := wrap_s (n := rs.length) hlt2 (by simp only [maxL]; omega)
          have hq : (i + 1 == rs.length) = false := by simp [he2]
          have ap := fun L => ap_ownL (row := Fit.row) (l := o) (x := ⟨true, (rs[i + 1] : Int)⟩) (r := [.bool true, .int .i32 (rs[i + 1] : Int)]) (sz := 2) (bytes := 8) (e := t_truchmanref01_Fit) H0 L rfl rfl rfl (by omega) (by omega)
          have ih := IH (i + 2) (o ++ [⟨true, (rs[i + 1] : Int)⟩]) (by omega) (by omega) (by simp; omega)
          simp only [kv_cons, kv_nil] at ih
          rw [hd2]
          dsimp only
          cases hcl : isCls rs[i + 1] with
          | false =>
            simp only [Bool.false_eq_true, if_false, fitV]
            have hn : ∀ m : Nat, m ∈ [97, 117, 108, 100, 115, 112, 104, 46, 37, 98] → ((rs[i + 1] : Int) == (m : Int)) = false := fun m hm => by
              simp only [beq_eq_false_iff_ne]
              intro e
              have e2 : rs[i + 1] = m := by exact_mod_cast e
              rw [e2] at hcl
              simp [isCls] at hcl hm
              omega
            have n1 := hn 97 (by simp); have n2 := hn 117 (by simp); have n3 := hn 108 (by simp); have n4 := hn 100 (by simp); have n5 := hn 115 (by simp)
            have n6 := hn 112 (by simp); have n7 := hn 104 (by simp); have n8 := hn 46 (by simp); have n9 := hn 37 (by simp); have n0 := hn 98 (by simp)
            rw [show ((97 : Nat) : Int) = 97 from rfl] at n1; rw [show ((117 : Nat) : Int) = 117 from rfl] at n2; rw [show ((108 : Nat) : Int) = 108 from rfl] at n3; rw [show ((100 : Nat) : Int) = 100 from rfl] at n4; rw [show ((115 : Nat) : Int) = 115 from rfl] at n5
            rw [show ((112 : Nat) : Int) = 112 from rfl] at n6; rw [show ((104 : Nat) : Int) = 104 from rfl] at n7; rw [show ((46 : Nat) : Int) = 46 from rfl] at n8; rw [show ((37 : Nat) : Int) = 37 from rfl] at n9; rw [show ((98 : Nat) : Int) = 98 from rfl] at n0
            rw [go_head M l_truchmanref01_fits_0.eq_1]
            simp (maxSteps := 3000000) (maxDischargeDepth := 6) +contextual -implicitDefEqProofs only [amC M, ↓amD, Nat.reduceBEq, Nat.reduceAdd, env, fargs, q_truchmanref01_fits, amG, AV.cell, Nat.reduceMul, Nat.reduceLeDiff, hlt, hx, hx2, hw1, hi1, hi2, qRune, e37, hq, gk, sk, n1, n2, n3, n4, n5, n6, n7, n8, n9, n0, List.getElem?_cons_succ, List.set_cons_succ, cut_app, hp_take, rowsWk_nil, wk_tuple]
            try rfl
          | true =>
            rw [if_pos rfl]
            have hcs : rs[i + 1] = 97 ∨ rs[i + 1] = 117 ∨ rs[i + 1] = 108 ∨ rs[i + 1] = 100 ∨ rs[i + 1] = 115 ∨ rs[i + 1] = 112 ∨ rs[i + 1] = 104 ∨ rs[i + 1] = 46 ∨ rs[i + 1] = 37 ∨ rs[i + 1] = 98 := by simpa [isCls] using hcl
            rw [go_head M l_truchmanref01_fits_0.eq_1]
            simp (maxSteps := 3000000) (maxDischargeDepth := 6) +contextual -implicitDefEqProofs only [amC M, ↓amD, Nat.reduceBEq, Nat.reduceAdd, env, fargs, q_truchmanref01_fits, amG, AV.cell, Nat.reduceMul, Nat.reduceLeDiff, hlt, hx, hx2, hw1, hw2, hi1, hi2, qRune, e37, hq, gk, sk, ap, ih, w1, w2, cut_tok, take_tok, List.getElem?_cons_succ, List.set_cons_succ, cut_app, hp_take]
            rcases hcs with e | e | e | e | e | e | e | e | e | e <;> (rw [e]; rfl)
      · rw [if_neg h37]
        have e37 : (((rs[i] : Nat) : Int) == 37) = false := by simp only [beq_eq_false_iff_ne]; intro e; exact h37 (by exact_mod_cast e)
        have ap := fun L => ap_ownL (row := Fit.row) (l := o) (x := ⟨false, (rs[i] : Int)⟩) (r := [.bool false, .int .i32 (rs[i] : Int)]) (sz := 2) (bytes := 8) (e := t_truchmanref01_Fit) H0 L rfl rfl rfl (by omega) (by omega)
        have ih := IH (i + 1) (o ++ [⟨false, (rs[i] : Int)⟩]) (by omega) (by omega) (by simp; omega)
        simp only [kv_cons, kv_nil] at ih
        rw [go_head M l_truchmanref01_fits_0.eq_1]
        simp (maxSteps := 3000000) (maxDischargeDepth := 6) +contextual -implicitDefEqProofs only [amC M, ↓amD, Nat.reduceBEq, Nat.reduceAdd, env, fargs, q_truchmanref01_fits, amG, AV.cell, Nat.reduceMul, Nat.reduceLeDiff, hlt, hx, hw1, hi1, qRune, e37, gk, sk, ap, ih, w1, w2, cut_tok, take_tok, List.getElem?_cons_succ, List.set_cons_succ, cut_app, hp_take]
theorem run_rfits (hU : BrkE E) {s : Str} (hs : s.length ≤ 1000000) (H : List AObj) : M.run f_truchmanref01_fits [.str s] H = some (.ret (fitV (fitL (runesL s))), H) := by
  rw [run_c M hU.truchmanref01_fits rfl (c := c_truchmanref01_fits) rfl, c_truchmanref01_fits]
  have hrl := runesL_len s
  have hh := fun o : List Fit => handV_drop (cut_app H [.tok (o.length * 2) t_truchmanref01_Fit]) (wk_tuple (xs := [.slice (.own H.length) 2 (o.map Fit.row), .bool true]) ⟨wk_any (esz := 2) (tag := .own H.length) (fts_wk H.length o), wk_bool _ true, trivial⟩)
  have h1 := fun k hk => rfl0 M (H0 := H) (rs := runesL s) (by omega) (k := k) hk ((runesL s).length + 1) 0 [] (by omega) (by omega) (by simp)
  simp only [kv_cons, kv_nil, Int.ofNat_zero, List.drop_zero, List.length_nil, Nat.zero_mul, List.map_nil] at h1
  have h2 := rcvsr_R (s := s) (by omega)
  rw [fitL]
  simp (maxSteps := 3000000) (maxDischargeDepth := 6) +contextual -implicitDefEqProofs only [amC M, ↓amD, Nat.reduceBEq, Nat.reduceAdd, env, fargs, q_truchmanref01_fits, h2]
  refine h1 _ fun o ho => ?_
  have hh1 := hh o
  simp only [anyV_tuple, hp_take] at hh1
  simp (maxSteps := 3000000) (maxDischargeDepth := 6) +contextual -implicitDefEqProofs only [amC M, ↓amD, Nat.reduceBEq, Nat.reduceAdd, env, fargs, q_truchmanref01_fits, hh1]
  rfl

end Go.Am
end

section
set_option linter.unusedSimpArgs false
set_option linter.unusedVariables false
set_option maxRecDepth 100000
set_option maxHeartbeats 4000000
namespace Go.Am
open Go.RowKit
attribute [local congr] dsel_congr sel_c1 slc_cong gsel_congr go_congr aft_congr aftD_congr condR_congr backR_congr inR_congr at2_congr
variable {E : REnv} (M : Mach cdec E)

/-! The specification's rules at a place -/
theorem fitA_len : ∀ (n : Nat) (o : List Fit) (l : List Nat) (x : List Fit), fitA n o l = some x → x.length ≤ o.length + l.length := by
  intro n
  induction n with
  | zero => intro o l x h; cases h
  | succ n IH =>
    intro o l x h
    rw [fitA.eq_def] at h
    cases l with
    | nil => cases h; simp
    | cons r t =>
      dsimp only at h
      split at h
      · cases t with
        | nil => cases h
        | cons c t =>
          dsimp only at h
          split at h
          · have := IH _ _ _ h; simp at this ⊢; omega
          · cases h
      · have := IH _ _ _ h; simp at this ⊢; omega
def fitD (s : Str) : List Fit := (fitL (runesL s)).getD []
theorem fitD_len (s : Str) : (fitD s).length ≤ s.length := by
  unfold fitD fitL
  cases h : fitA ((runesL s).length + 1) [] (runesL s) with
  | none => simp
  | some x => have := fitA_len _ _ _ _ h; have := runesL_len s; simp at *; omega
theorem fitV_D (s : Str) : fitV (fitL (runesL s)) = .tuple [.slice .any 2 ((fitD s).map Fit.row), .bool (fitL (runesL s)).isSome] := by
  unfold fitD
  cases fitL (runesL s) <;> rfl
def ruleF (u : List Un) (a : Nat) (r : Brk) : Bool := decide (widF (fitD r.bef) ≤ a) && behF u (fitD r.bef) (a - widF (fitD r.bef)) && behF u (fitD r.aft) a
def brkF (u : List Un) (a : Nat) : List Brk → Bool
  | [] => false
  | r :: rs => sel (ruleF u a r) r.brk (brkF u a rs)
def unitsF (l : List Piece) : Int × Int := if checkP l = 0 then ((unL l).length, 0) else (0, checkP l)
theorem run_rUnits (hB : BasE E) (hU : BrkE E) {l : Sl Piece} (hl : l.l.length ≤ 100000) (ht : TxtOk l.l) (hu : (unL l.l).length ≤ 1000000) (H : List AObj) :
    M.run f_truchmanref01_Units [.slice l.tag 3 (l.l.map Piece.row)] H = some (.ret (.tuple [.int .i64 (unitsF l.l).1, .int .u8 (unitsF l.l).2]), H) := by
  rw [run_c M hU.truchmanref01_Units rfl (c := c_truchmanref01_Units) rfl, c_truchmanref01_Units]
  have h1 := fun H => run_rCheckPieces M hB (l := l) (by omega) ht H
  have h2 := fun H => run_runits M hU (l := l.l) (tg := l.tag) hl ht hu H
  by_cases h : checkP l.l = 0
  · rw [unitsF, if_pos h]
    rw [h] at h1
    simp (maxSteps := 3000000) (maxDischargeDepth := 6) +contextual -implicitDefEqProofs only [amC M, ↓amD, Nat.reduceBEq, Nat.reduceAdd, env, fargs, q_truchmanref01_Units, h1, h2, List.length_map, (show ((0 : Int) == 0) = true from rfl), (show ((0 : Int) != 0) = false from rfl)]
  · rw [unitsF, if_neg h]
    have h0 : (checkP l.l == 0) = false := by simpa using h
    simp (maxSteps := 3000000) (maxDischargeDepth := 6) +contextual -implicitDefEqProofs only [amC M, ↓amD, Nat.reduceBEq, Nat.reduceAdd, env, fargs, q_truchmanref01_Units, h1, h0]

end Go.Am
end

section
set_option linter.unusedSimpArgs false
set_option linter.unusedVariables false
set_option maxRecDepth 100000
set_option maxHeartbeats 4000000
namespace Go.Am
open Go.RowKit
attribute [local congr] dsel_congr sel_c1 slc_cong gsel_congr go_congr aft_congr aftD_congr condR_congr backR_congr inR_congr at2_congr
variable {E : REnv} (M : Mach cdec E)

/-! The specification's CheckBreaks -/
def patE (s : Str) : Int := sel ((fitL (runesL s)).isSome && textF s) (sel (decide ((32 : Int) < ((fitD s).length : Int))) 3 0) 4
theorem iaa_2 {q j : Nat} (hj : j < 2) (k : IntKind) : riaa 2 1 (.ptr q 0) (.int k (j : Int)) = some (.ptr q j) := by
  simp only [riaa]
  rw [if_pos (by omega)]
  simp
theorem rcb_end {H H0 : List AObj} {v0 v3 : AV} {p : Nat} (k : List Fra) (He : List AObj) :
    M.go a_truchmanref01_CheckBreaks H0 (.c l_truchmanref01_CheckBreaks_0 :: .lp ⟨(some [0, 3, 4, 5]), [], false⟩ l_truchmanref01_CheckBreaks_0 He :: .blk 2 :: .c (.lv [0, 3]) :: k) (kv [(0, v0), (3, v3), (4, .ptr p 0), (5, .int .i64 2)]) H = M.go a_truchmanref01_CheckBreaks H0 k (kv [(0, v0), (3, v3)]) H := by
  rw [go_head M l_truchmanref01_CheckBreaks_0.eq_1]
  simp (maxSteps := 3000000) (maxDischargeDepth := 6) +contextual -implicitDefEqProofs only [amC M, ↓amD, Nat.reduceBEq, Nat.reduceAdd, env, fargs, q_truchmanref01_CheckBreaks, (show decide ((2 : Int) < 2) = false from rfl)]
theorem rcb_step (hB : BasE E) (hU : BrkE E) {H H0 : List AObj} (hc : CutOk H0 H) {v0 v3 : AV} {p j : Nat} {a b s : Str} {T : TypeId} (hp : H[p]? = some (.cells [.str a, .str b] T)) (hj : j < 2) (hx : ([a, b] : List Str)[j]? = some s) (hs : s.length ≤ 1000000) (k : List Fra) (He : List AObj) :
    M.go a_truchmanref01_CheckBreaks H0 (.c l_truchmanref01_CheckBreaks_0 :: .lp ⟨(some [0, 3, 4, 5]), [], false⟩ l_truchmanref01_CheckBreaks_0 He :: .blk 2 :: .c (.lv [0, 3]) :: k) (kv [(0, v0), (3, v3), (4, .ptr p 0), (5, .int .i64 (j : Int))]) H =
      sel (patE s == 0) ((fun He => M.go a_truchmanref01_CheckBreaks H0 (.c l_truchmanref01_CheckBreaks_0 :: .lp ⟨(some [0, 3, 4, 5]), [], false⟩ l_truchmanref01_CheckBreaks_0 He :: .blk 2 :: .c (.lv [0, 3]) :: k) (kv [(0, v0), (3, v3), (4, .ptr p 0), (5, .int .i64 ((j + 1 : Nat) : Int))]) H) H) (some (.ret (.int .u8 (patE s)), H.take H0.length)) := by
  have hf := fun H => run_rfits M hU hs H
  simp only [fitV_D] at hf
  have ht := fun H => run_Text M hB (s := s) (by omega) H
  have hld : rload none [.str a, .str b] j = some (.str s) := by
    rcases j with _ | _ | j
    · cases hx; rfl
    · cases hx; rfl
    · omega
  have hlt : decide ((j : Int) < 2) = true := decide_eq_true (by omega)
  have hw := wrap_s (n := 2) hj (by simp [maxL])
  rw [go_head M l_truchmanref01_CheckBreaks_0.eq_1]
  cases h1 : (fitL (runesL s)).isSome with
  | false =>
    simp only [h1] at hf
    simp (maxSteps := 3000000) (maxDischargeDepth := 6) +contextual -implicitDefEqProofs only [amC M, ↓amD, Nat.reduceBEq, Nat.reduceAdd, env, fargs, q_truchmanref01_CheckBreaks, hlt, iaa_2 hj, hp, hld, hf, aextract, List.getElem?_cons_succ, h1, hc, patE]
    try rfl
  | true =>
    simp only [h1] at hf
    cases h2 : textF s with
    | false =>
      simp only [h2] at ht
      simp (maxSteps := 3000000) (maxDischargeDepth := 6) +contextual -implicitDefEqProofs only [amC M, ↓amD, Nat.reduceBEq, Nat.reduceAdd, env, fargs, q_truchmanref01_CheckBreaks, hlt, iaa_2 hj, hp, hld, hf, ht, aextract, List.getElem?_cons_succ, h1, h2, hc, patE]
      try rfl
    | true =>
      simp only [h2] at ht
      cases h3 : decide ((32 : Int) < ((fitD s).length : Int)) with
      | true =>
        simp (maxSteps := 3000000) (maxDischargeDepth := 6) +contextual -implicitDefEqProofs only [amC M, ↓amD, Nat.reduceBEq, Nat.reduceAdd, env, fargs, q_truchmanref01_CheckBreaks, hlt, iaa_2 hj, hp, hld, hf, ht, aextract, List.getElem?_cons_succ, List.length_map, h1, h2, h3, hc, patE]
        try rfl
      | false =>
        simp (maxSteps := 3000000) (maxDischargeDepth := 6) +contextual -implicitDefEqProofs only [amC M, ↓amD, Nat.reduceBEq, Nat.reduceAdd, env, fargs, q_truchmanref01_CheckBreaks, hlt, iaa_2 hj, hp, hld, hf, ht, hw, aextract, List.getElem?_cons_succ, List.length_map, h1, h2, h3, hc, patE, (show ((0 : Int) == 0) = true from rfl)]
def rulesE : List Brk → Int
  | [] => 0
  | r :: rs => sel (patE r.bef == 0) (sel (patE r.aft == 0) (rulesE rs) (patE r.aft)) (patE r.bef)
theorem rcb {H H0 : List AObj} (hB : BasE E) (hU : BrkE E) {l : Sl Brk} (hl : l.ok 0 (Brk.ok 0)) (hr0 : l.l.length ≤ 1000) (hr : ∀ r ∈ l.l, r.bef.length ≤ 1000000 ∧ r.aft.length ≤ 1000000) (hc : CutOk H0 H) (k : List Fra) : ∀ (n i : Nat), i + n = (l.l).length →
    M.go a_truchmanref01_CheckBreaks H0 (.c l_truchmanref01_CheckBreaks_1 :: .lp ⟨(some [0, 3]), [], true⟩ l_truchmanref01_CheckBreaks_1 H :: .blk 0 :: .c (.lv []) :: k) (kv [(0, .slice l.tag 3 (l.l.map Brk.row)), (3, .int .i64 i)]) H =
      sel (rulesE (l.l.drop i) == 0) (M.go a_truchmanref01_CheckBreaks H0 k .leaf H) (some (.ret (.int .u8 (rulesE (l.l.drop i))), H.take H0.length))
  | 0, i, h => by
    have e : i = (l.l).length := by omega
    subst e
    rw [go_head M l_truchmanref01_CheckBreaks_1.eq_1]
    simp (maxSteps := 3000000) (maxDischargeDepth := 6) +contextual -implicitDefEqProofs only [amC M, ↓amD, Nat.reduceBEq, Nat.reduceAdd, env, fargs, q_truchmanref01_CheckBreaks, Nat.lt_irrefl, List.drop_length, rulesE, (show ((0 : Int) == 0) = true from rfl)]
  | n + 1, i, h => by
    have hi : i < (l.l).length := by omega
    have hx : (l.l)[i]? = some (l.l)[i] := List.getElem?_eq_getElem hi
    have hd : ((l.l).drop i) = (l.l)[i] :: (l.l).drop (i + 1) := List.drop_eq_getElem_cons hi
    have hm : (l.l)[i] ∈ (l.l) := List.getElem_mem hi
    have ih := rcb (H := H) (H0 := H0) (hB := hB) (hU := hU) (l := l) (hl := hl) (hr0 := hr0) (hr := hr) hc k n (i + 1)  (by omega)
    simp only [kv_cons, kv_nil] at ih
    have hm1 := hr _ hm
    have w1 : Wk H.length (.slice l.tag 3 (l.l.map Brk.row)) (.slice l.tag 3 (l.l.map Brk.row)) := (hl.mono (Nat.zero_le _) (fun _ h => h.mono (Nat.zero_le _))).wk (fun _ h => h.wk)
    have hwi := wrap_s (n := l.l.length) hi (by simp only [maxL]; omega)
    have hir := ias_row (row := Brk.row) (tag := l.tag) (sz := 3) (k := .i64) hi
    have hce := fun L => cut_more hc L
    have hte := fun L => take_more hc L
    have hp : (H ++ [.cells [.str l.l[i].bef, .str l.l[i].aft] t_2_string])[H.length]? = some (.cells [.str l.l[i].bef, .str l.l[i].aft] t_2_string) := hp_get0 _ _
    have s0 := fun k He => rcb_step M hB hU (cut_more hc [.cells [.str l.l[i].bef, .str l.l[i].aft] t_2_string]) (v0 := .slice l.tag 3 (l.l.map Brk.row)) (v3 := .int .i64 (i : Int)) hp (j := 0) (by omega) rfl hm1.1 k He
    have s1 := fun k He => rcb_step M hB hU (cut_more hc [.cells [.str l.l[i].bef, .str l.l[i].aft] t_2_string]) (v0 := .slice l.tag 3 (l.l.map Brk.row)) (v3 := .int .i64 (i : Int)) hp (j := 1) (by omega) rfl hm1.2 k He
    have s2 := fun k He => rcb_end M (H := H ++ [.cells [.str l.l[i].bef, .str l.l[i].aft] t_2_string]) (H0 := H0) (v0 := .slice l.tag 3 (l.l.map Brk.row)) (v3 := .int .i64 (i : Int)) (p := H.length) k He
    simp only [kv_cons, kv_nil, Int.ofNat_zero, Nat.zero_add, show ((1 : Nat) : Int) = 1 from rfl, show ((1 + 1 : Nat) : Int) = 2 from rfl] at s0 s1 s2
    rw [go_head M l_truchmanref01_CheckBreaks_1.eq_1]
    simp (maxSteps := 3000000) (maxDischargeDepth := 6) +contextual -implicitDefEqProofs only [amC M, ↓amD, Nat.reduceBEq, Nat.reduceAdd, env, fargs, q_truchmanref01_CheckBreaks, amG, AV.cell, Nat.reduceMul, Nat.reduceLeDiff, hi, ih, hx, hd, hc, rulesE, w1, hwi, hir, qBrk, s0, s1, s2, hce, hte, cut_app, hp_take]
    cases h1 : patE l.l[i].bef == 0 with
    | false =>
      show _ = slc (patE l.l[i].bef == 0) _ _
      rw [h1]; rfl
    | true =>
      cases h2 : patE l.l[i].aft == 0 with
      | false =>
        show _ = slc (patE l.l[i].aft == 0) _ _
        rw [h2]; rfl
      | true => rfl
def checkB (l : List Brk) : Int := sel (decide ((64 : Int) < (l.length : Int))) 3 (rulesE l)
theorem run_rCheckBreaks (hB : BasE E) (hU : BrkE E) {l : Sl Brk} (hl : l.ok 0 (Brk.ok 0)) (hr0 : l.l.length ≤ 1000) (hr : l.l.length ≤ 64 → ∀ r ∈ l.l, r.bef.length ≤ 1000000 ∧ r.aft.length ≤ 1000000) (H : List AObj) :
    M.run f_truchmanref01_CheckBreaks [.slice l.tag 3 (l.l.map Brk.row)] H = some (.ret (.int .u8 (checkB l.l)), H) := by
  rw [run_c M hU.truchmanref01_CheckBreaks rfl (c := c_truchmanref01_CheckBreaks) rfl, c_truchmanref01_CheckBreaks]
  have h1 := fun (h64 : l.l.length ≤ 64) k => rcb M hB hU hl hr0 (hr h64) (cut_refl H) k l.l.length 0 (by omega)
  simp only [kv_cons, kv_nil, Int.ofNat_zero, List.drop_zero] at h1
  cases h : decide ((64 : Int) < (l.l.length : Int)) with
  | true => simp (maxSteps := 3000000) (maxDischargeDepth := 6) +contextual -implicitDefEqProofs only [amC M, ↓amD, Nat.reduceBEq, Nat.reduceAdd, env, fargs, q_truchmanref01_CheckBreaks, List.length_map, h, checkB]
  | false =>
    have h1 := h1 (by have := of_decide_eq_false h; omega)
    cases h2 : rulesE l.l == 0 with
    | true =>
      simp only [h2, sel_true] at h1
      have h3 : rulesE l.l = 0 := by simpa using h2
      simp (maxSteps := 3000000) (maxDischargeDepth := 6) +contextual -implicitDefEqProofs only [amC M, ↓amD, Nat.reduceBEq, Nat.reduceAdd, env, fargs, q_truchmanref01_CheckBreaks, List.length_map, h, checkB, h1, h3]
    | false =>
      simp only [h2, sel_false] at h1
      simp (maxSteps := 3000000) (maxDischargeDepth := 6) +contextual -implicitDefEqProofs only [amC M, ↓amD, Nat.reduceBEq, Nat.reduceAdd, env, fargs, q_truchmanref01_CheckBreaks, List.length_map, h, checkB, h1, hp_self]

end Go.Am
end

section
set_option linter.unusedSimpArgs false
set_option linter.unusedVariables false
set_option maxRecDepth 100000
set_option maxHeartbeats 4000000
namespace Go.Am
open Go.RowKit
attribute [local congr] dsel_congr sel_c1 slc_cong gsel_congr go_congr aft_congr aftD_congr condR_congr backR_congr inR_congr at2_congr
variable {E : REnv} (M : Mach cdec E)

/-! The specification's Breaks -/
def plcF (u : List Un) (rs : List Brk) : Nat → Nat → List Int
  | 0, _ => []
  | n + 1, a => sel (brkF u a rs) [(a : Int)] [] ++ plcF u rs n (a + 1)
def plcL (rs : List Brk) (l : List Piece) : List Int := plcF (unL l) rs ((unL l).length - 1) 1
def breaksV (rs : List Brk) (l : List Piece) : AV :=
  sel (checkB rs == 0) (sel (checkP l == 0) (.tuple [.slice .any 1 ((plcL rs l).map intRow), .int .u8 0]) (.tuple [.slice .any 1 [], .int .u8 (checkP l)])) (.tuple [.slice .any 1 [], .int .u8 (checkB rs)])
theorem ints_wk (n : Nat) (l : List Int) : RowsWk n (l.map intRow) := by
  rw [rowsWk_map]; exact fun _ _ => ⟨wk_int _ _ _, trivial⟩
theorem checkB_len {l : List Brk} (h : (checkB l == 0) = true) : l.length ≤ 64 := by
  have h := eq_of_beq h
  unfold checkB at h
  cases hb : decide ((64 : Int) < (l.length : Int)) with
  | true => rw [hb] at h; cases h
  | false => have := of_decide_eq_false hb; omega
end Go.Am
end

section
set_option linter.unusedSimpArgs false
set_option linter.unusedVariables false
set_option maxRecDepth 100000
set_option maxHeartbeats 4000000
namespace Go.Am
open Go.RowKit
attribute [local congr] dsel_congr sel_c1 slc_cong gsel_congr go_congr aft_congr aftD_congr condR_congr backR_congr inR_congr at2_congr
variable {E : REnv} (M : Mach cdec E)

/-! The specification's Fits -/
end Go.Am
end

section
set_option linter.unusedSimpArgs false
set_option linter.unusedVariables false
set_option maxRecDepth 100000
set_option maxHeartbeats 4000000
namespace Go.Am
open Go.RowKit
attribute [local congr] dsel_congr sel_c1 slc_cong gsel_congr go_congr aft_congr aftD_congr condR_congr backR_congr inR_congr at2_congr
variable {E : REnv} (M : Mach cdec E)

/-! Small functions of the laws about breaks -/
theorem qIntR : ∀ n : Int, rload none (intRow n) 0 = some (.int .i64 n) := fun _ => rfl
theorem inl {H H0 : List AObj} {l : List Int} {ta tb : Tag} (hl : l.length ≤ maxL) (hc : CutOk H0 H) (k : List Fra) : ∀ (n i : Nat) (He : List AObj), i + n = l.length →
    M.go a_truchmanlaw01_ints H0 (.c l_truchmanlaw01_ints_0 :: .lp ⟨(some [0, 1, 5]), [], false⟩ l_truchmanlaw01_ints_0 He :: .blk 0 :: .c (.lv []) :: k) (kv [(0, .slice ta 1 (l.map intRow)), (1, .slice tb 1 (l.map intRow)), (5, .int .i64 i)]) H =
      (M.go a_truchmanlaw01_ints H0 k .leaf H)
  | 0, i, He, h => by
    have e : i = l.length := by omega
    subst e
    rw [go_head M l_truchmanlaw01_ints_0.eq_1]
    simp (maxSteps := 3000000) (maxDischargeDepth := 6) +contextual -implicitDefEqProofs only [amC M, ↓amD, Nat.reduceBEq, Nat.reduceAdd, env, fargs, q_truchmanlaw01_ints, Nat.lt_irrefl, List.drop_length]
  | n + 1, i, He, h => by
    have hi : i < l.length := by omega
    have hx : l[i]? = some l[i] := List.getElem?_eq_getElem hi
    have hd : (l.drop i) = l[i] :: l.drop (i + 1) := List.drop_eq_getElem_cons hi
    have hm : l[i] ∈ l := List.getElem_mem hi
    have ih := fun He => inl (H := H) (H0 := H0) (l := l) (ta := ta) (tb := tb) (hl := hl) hc k n (i + 1)  He (by omega)
    simp only [kv_cons, kv_nil] at ih
    rw [go_head M l_truchmanlaw01_ints_0.eq_1]
    simp (maxSteps := 3000000) (maxDischargeDepth := 6) +contextual -implicitDefEqProofs only [amC M, ↓amD, Nat.reduceBEq, Nat.reduceAdd, env, fargs, q_truchmanlaw01_ints, hx, hd, hi, ih, wrap_s hi hl, ias_row hi, qIntR, beq_self_eq_true]
theorem run_ints (hU : BrkE E) {l : List Int} {ta tb : Tag} (hl : l.length ≤ maxL) (H : List AObj) : M.run f_truchmanlaw01_ints [.slice ta 1 (l.map intRow), .slice tb 1 (l.map intRow)] H = some (.ret (.bool true), H) := by
  rw [run_c M hU.truchmanlaw01_ints rfl (c := c_truchmanlaw01_ints) rfl, c_truchmanlaw01_ints]
  have h1 := fun k He => inl M (ta := ta) (tb := tb) hl (cut_refl H) k l.length 0 He (by omega)
  simp only [kv_cons, kv_nil, Int.ofNat_zero] at h1
  simp (maxSteps := 3000000) (maxDischargeDepth := 6) +contextual -implicitDefEqProofs only [amC M, ↓amD, Nat.reduceBEq, Nat.reduceAdd, env, fargs, q_truchmanlaw01_ints, h1, List.length_map, beq_self_eq_true]
def plainF : List Piece → Str
  | [] => []
  | x :: l => sel (x.kind == 1) x.text [] ++ plainF l
theorem rpn {H H0 : List AObj} {l : List Piece} {tg : Tag} (hl : l.length ≤ maxL) (k : List Fra) : ∀ (n i : Nat) (w : Str) (He : List AObj), i + n = l.length → w.length + (plainF (l.drop i)).length ≤ 1000000 →
    M.go a_truchmanref01_Plain H0 (.c l_truchmanref01_Plain_0 :: .lp ⟨(some [0, 3, 4]), [], false⟩ l_truchmanref01_Plain_0 He :: .blk 0 :: .c (.lv [3]) :: k) (kv [(0, .slice tg 3 (l.map Piece.row)), (3, .str w), (4, .int .i64 i)]) H =
      M.go a_truchmanref01_Plain H0 k (kv [(3, .str (w ++ plainF (l.drop i)))]) H
  | 0, i, w, He, h, hw => by
    have e : i = l.length := by omega
    subst e
    rw [go_head M l_truchmanref01_Plain_0.eq_1]
    simp (maxSteps := 3000000) (maxDischargeDepth := 6) +contextual -implicitDefEqProofs only [amC M, ↓amD, Nat.reduceBEq, Nat.reduceAdd, env, fargs, q_truchmanref01_Plain, Nat.lt_irrefl, List.drop_length, plainF, List.append_nil]
  | n + 1, i, w, He, h, hw => by
    have hi : i < l.length := by omega
    have hx : l[i]? = some l[i] := List.getElem?_eq_getElem hi
    have hd : (l.drop i) = l[i] :: l.drop (i + 1) := List.drop_eq_getElem_cons hi
    have hwi := wrap_s (n := l.length) hi hl
    rw [hd, plainF] at hw ⊢
    cases h1 : l[i].kind == 1 with
    | true =>
      rw [h1, sel_true, List.length_append] at hw
      have ih := fun He => rpn (H := H) (H0 := H0) (tg := tg) hl k n (i + 1) (w ++ l[i].text) He (by omega) (by rw [List.length_append]; omega)
      simp only [kv_cons, kv_nil] at ih
      have ha := st_addO (s := w) (t := l[i].text) (by omega)
      rw [sel_true, ← List.append_assoc]
      rw [go_head M l_truchmanref01_Plain_0.eq_1]
      simp (maxSteps := 3000000) (maxDischargeDepth := 6) +contextual -implicitDefEqProofs only [amC M, ↓amD, Nat.reduceBEq, Nat.reduceAdd, env, fargs, q_truchmanref01_Plain, hi, hx, h1, ih, ha, ias_row hi, qPiece, hwi]
    | false =>
      rw [h1, sel_false, List.nil_append] at hw
      have ih := fun He => rpn (H := H) (H0 := H0) (tg := tg) hl k n (i + 1) w He (by omega) hw
      simp only [kv_cons, kv_nil] at ih
      rw [sel_false, List.nil_append]
      rw [go_head M l_truchmanref01_Plain_0.eq_1]
      simp (maxSteps := 3000000) (maxDischargeDepth := 6) +contextual -implicitDefEqProofs only [amC M, ↓amD, Nat.reduceBEq, Nat.reduceAdd, env, fargs, q_truchmanref01_Plain, hi, hx, h1, ih, ias_row hi, qPiece, hwi]
theorem run_Plain (hU : BrkE E) {l : List Piece} {tg : Tag} (hl : l.length ≤ maxL) (hp : (plainF l).length ≤ 1000000) (H : List AObj) : M.run f_truchmanref01_Plain [.slice tg 3 (l.map Piece.row)] H = some (.ret (.str (plainF l)), H) := by
  rw [run_c M hU.truchmanref01_Plain rfl (c := c_truchmanref01_Plain) rfl, c_truchmanref01_Plain]
  have h1 := fun k He => rpn M (H := H) (H0 := H) (tg := tg) hl k l.length 0 [] He (by omega) (by simpa using hp)
  simp only [kv_cons, kv_nil, Int.ofNat_zero, List.drop_zero, List.nil_append] at h1
  simp (maxSteps := 3000000) (maxDischargeDepth := 6) +contextual -implicitDefEqProofs only [amC M, ↓amD, Nat.reduceBEq, Nat.reduceAdd, env, fargs, q_truchmanref01_Plain, h1, hp_self, cut_refl]

end Go.Am
end

section
set_option linter.unusedSimpArgs false
set_option linter.unusedVariables false
set_option maxRecDepth 100000
set_option maxHeartbeats 4000000
namespace Go.Am
open Go.RowKit
attribute [local congr] dsel_congr sel_c1 slc_cong gsel_congr go_congr aft_congr aftD_congr condR_congr backR_congr inR_congr at2_congr
variable {E : REnv} (M : Mach cdec E)

/-! The items of a pattern: the program's -/
def fnRow (v : AV) : List AV := [v]
def clsV (c : Nat) : AV :=
  if c = 97 then .fn (.func f_docs_unit_letter) [] [] else if c = 117 then .fn (.func f_docs_items_2) [] [] else if c = 108 then .fn (.func f_docs_items_3) [] []
  else if c = 100 then .fn (.func f_docs_unit_digit) [] [] else if c = 115 then .fn (.func f_docs_unit_blank) [] [] else if c = 112 then .fn (.func f_docs_unit_mark) [] []
  else if c = 104 then .fn (.func f_docs_items_4) [] [] else if c = 46 then .fn (.func f_docs_items_5) [] [] else if c = 37 then .fn (.func f_docs_items_6) [] [] else .nilfn
def itmF (x : Fit) : AV := match x.cls with
  | true => clsV x.r.toNat
  | false => .fn (.func f_docs_items_1) [] [.vptr 1 [[.int .i32 x.r]] 0 0]
def Itm (b : Nat) (L : List AObj) (x : Fit) (v : AV) : Prop := match x.cls with
  | true => v = clsV x.r.toNat
  | false => ∃ j T, v = .fn (.func f_docs_items_1) [] [.ptr (b + (j + 1)) 0] ∧ L[j]? = some (.cells [.int .i32 x.r] T)
def Itms (b : Nat) (L : List AObj) (xs : List Fit) (o : List AV) : Prop := o.length = xs.length ∧ ∀ (i : Nat) (x : Fit) (v : AV), xs[i]? = some x → o[i]? = some v → Itm b L x v
theorem itm_app {b : Nat} {L : List AObj} {x : Fit} {v : AV} (h : Itm b L x v) (X : List AObj) : Itm b (L ++ X) x v := by
  unfold Itm at h ⊢
  cases hc : x.cls with
  | true => rw [hc] at h; exact h
  | false =>
    rw [hc] at h
    obtain ⟨j, T, h1, h2⟩ := h
    exact ⟨j, T, h1, hp_getl h2⟩
theorem itms_nil (b : Nat) (L : List AObj) : Itms b L [] [] := ⟨rfl, fun i x v h => by simp at h⟩
theorem itms_snoc {b : Nat} {L : List AObj} {xs : List Fit} {o : List AV} (h : Itms b L xs o) (X : List AObj) {x : Fit} {v : AV} (hx : Itm b (L ++ X) x v) : Itms b (L ++ X) (xs ++ [x]) (o ++ [v]) := by
  refine ⟨by simp [h.1], fun i y w hy hw => ?_⟩
  by_cases hi : i < xs.length
  · rw [List.getElem?_append_left hi] at hy
    rw [List.getElem?_append_left (by rw [h.1]; exact hi)] at hw
    exact itm_app (h.2 i y w hy hw) X
  · have : i = xs.length := by
      have := (List.getElem?_eq_some_iff.1 hy).1
      simp at this; omega
    subst this
    rw [List.getElem?_append_right (Nat.le_refl _)] at hy
    rw [List.getElem?_append_right (by rw [h.1]; exact Nat.le_refl _)] at hw
    simp [h.1] at hy hw
    subst hy; subst hw; exact hx
theorem fz_cls (k n : Nat) (H : List AObj) (c : Nat) : fzF (k + 1) n H (clsV c) = some (clsV c) := by
  unfold clsV
  repeat' split
  all_goals rfl
theorem fz_itms {H0 : List AObj} {T : TypeId} {m : Nat} {L : List AObj} {xs : List Fit} {o : List AV} (h : Itms H0.length L xs o) :
    fzF 5 H0.length (H0 ++ (.tok m T :: L)) (.tuple [.slice (.own H0.length) 1 (o.map fnRow), .bool true]) = some (.tuple [.slice .any 1 (xs.map fun x => [itmF x]), .bool true]) := by
  refine fz_tuple (mapO_cons (fz_rows (t := .own H0.length) (mapO_all (by simp [h.1]) fun i x y hx hy => ?_)) (mapO_cons (fz_bool _ _ _ _) (mapO_nil _)))
  rw [List.getElem?_map] at hx hy
  cases hv : o[i]? with
  | none => rw [hv] at hx; cases hx
  | some v =>
    cases hf : xs[i]? with
    | none => rw [hf] at hy; cases hy
    | some f =>
      rw [hv] at hx; rw [hf] at hy; cases hx; cases hy
      have hi := h.2 i f v hf hv
      unfold Itm at hi
      refine mapO_cons ?_ (mapO_nil _)
      unfold itmF
      cases hc : f.cls with
      | true => rw [hc] at hi; rw [hi]; exact fz_cls _ _ _ _
      | false =>
        rw [hc] at hi
        obtain ⟨j, T2, h1, h2⟩ := hi
        rw [h1]
        exact fz_fn (mapO_nil _) (mapO_cons (fz_ptr (by omega) ((hp_getk H0 _ (j + 1)).trans h2) (mapO_cons (fz_int _ _ _ _ _) (mapO_nil _))) (mapO_nil _))
def itmsV : Option (List Fit) → AV
  | none => .tuple [.slice .nil 1 [], .bool false]
  | some l => .tuple [.slice .any 1 (l.map fun x => [itmF x]), .bool true]
theorem deep_none (H0 L : List AObj) : handV cdec .deep H0 (H0 ++ L) (.tuple [.slice .nil 1 [], .bool false]) = some (.tuple [.slice .nil 1 [], .bool false], H0) := by
  rw [handV_deep (cut_app _ _) ⟨5, fz_tuple (mapO_cons (fz_rows (t := .nil) (mapO_nil _)) (mapO_cons (fz_bool _ _ _ _) (mapO_nil _)))⟩, hp_take]; rfl
theorem deep_self {H0 : List AObj} : handV cdec .deep H0 H0 (.tuple [.slice .nil 1 [], .bool false]) = some (.tuple [.slice .nil 1 [], .bool false], H0) := by
  have := deep_none H0 []
  rwa [List.append_nil] at this
theorem castN : ((97 : Nat) : Int) = 97 ∧ ((117 : Nat) : Int) = 117 ∧ ((108 : Nat) : Int) = 108 ∧ ((100 : Nat) : Int) = 100 ∧ ((115 : Nat) : Int) = 115 ∧ ((112 : Nat) : Int) = 112 ∧ ((104 : Nat) : Int) = 104 ∧ ((46 : Nat) : Int) = 46 ∧ ((37 : Nat) : Int) = 37 ∧ ((98 : Nat) : Int) = 98 :=
  ⟨rfl, rfl, rfl, rfl, rfl, rfl, rfl, rfl, rfl, rfl⟩
theorem itl {H0 : List AObj} {rs : List Nat} (hrs : rs.length ≤ 1000000) {k : List Fra}
    (hk : ∀ (o : List AV) (xs : List Fit) (L : List AObj), Itms H0.length L xs o → M.go a_docs_items H0 k (kv [(4, .slice (.own H0.length) 1 (o.map fnRow))]) (H0 ++ (.tok (o.length * 1) t_docs_item :: L)) = some (.ret (itmsV (some xs)), H0)) :
    ∀ (n i : Nat) (o : List AV) (xs : List Fit) (L He : List AObj), rs.length - i < n → i ≤ rs.length → o.length ≤ i → Itms H0.length L xs o →
    M.go a_docs_items H0 (.c l_docs_items_0 :: .lp ⟨(some [4, 5, 6]), [(4, 1, t_docs_item)], false⟩ l_docs_items_0 He :: .blk 0 :: .c (.lv [4]) :: k) (kv [(4, .slice (.own H0.length) 1 (o.map fnRow)), (5, .slice .any 1 (rs.map runeRow)), (6, .int .i64 i)]) (H0 ++ (.tok (o.length * 1) t_docs_item :: L)) =
      some (.ret (itmsV (fitA n xs (rs.drop i))), H0) := by
  intro n
  induction n with
  | zero => intro i o xs L He h; omega
  | succ n IH =>
    intro i o xs L He h hi hol hI
    by_cases he : i = rs.length
    · subst he
      rw [List.drop_length, fitA]
      have h1 := hk o xs L hI
      simp only [kv_cons, kv_nil] at h1
      rw [go_head M l_docs_items_0.eq_1]
      simp (maxSteps := 3000000) (maxDischargeDepth := 6) +contextual -implicitDefEqProofs only [amC M, ↓amD, Nat.reduceBEq, Nat.reduceAdd, env, fargs, q_docs_items, Nat.lt_irrefl, h1]
    · have hlt : i < rs.length := by omega
      have hx : rs[i]? = some rs[i] := List.getElem?_eq_getElem hlt
      have hd : (rs.drop i) = rs[i] :: rs.drop (i + 1) := List.drop_eq_getElem_cons hlt
      have hw1 := wrap_s (n := rs.length) hlt (by simp only [maxL]; omega)
      have hi1 := ias_row (row := runeRow) (tag := .any) (sz := 1) (k := .i64) hlt
      have ap := fun (X : List AObj) (v : AV) (h2 : v.cell = true) (h3 : v.strip = v) => ap_ownL (row := fnRow) (l := o) (x := v) (r := [v]) (sz := 1) (bytes := 8) (e := t_docs_item) H0 (L ++ X) rfl (by simp [h2]) (by simp [h3, fnRow]) (by omega) (by omega)
      have ih := fun (j : Nat) (x : Fit) (v : AV) (X He : List AObj) (h1 : rs.length - j < n) (h2 : j ≤ rs.length) (h3 : o.length + 1 ≤ j) (h4 : Itm H0.length (L ++ X) x v) => IH j (o ++ [v]) (xs ++ [x]) (L ++ X) He h1 h2 (by simpa using h3) (itms_snoc hI X h4)
      simp only [kv_cons, kv_nil] at ih
      have hG : ∀ (m : Nat) (X : List AObj), H0 ++ (.tok m t_docs_item :: (L ++ X)) = (H0 ++ (.tok m t_docs_item :: L)) ++ X := fun m X => by simp
      simp only [hG] at ap ih
      have hcut : ∀ m X, CutOk H0 ((H0 ++ (.tok m t_docs_item :: L)) ++ X) := fun m X => by rw [List.append_assoc]; exact cut_app _ _
      have hL : (H0 ++ (.tok (o.length * 1) t_docs_item :: L)).length = H0.length + (L.length + 1) := by simp
      have dn : ∀ X, handV cdec .deep H0 (H0 ++ (.tok (o.length * 1) t_docs_item :: L) ++ X) (.tuple [.slice .nil 1 [], .bool false]) = some (.tuple [.slice .nil 1 [], .bool false], H0) := fun X => by rw [List.append_assoc]; exact deep_none _ _
      generalize H0 ++ (.tok (o.length * 1) t_docs_item :: L) = G at *
      rw [hd, fitA.eq_def]
      dsimp only
      by_cases h37 : rs[i] = 37
      · rw [if_pos h37]
        have e37 : (((rs[i] : Nat) : Int) == 37) = true := by rw [h37]; rfl
        by_cases he2 : i + 1 = rs.length
        · rw [List.drop_of_length_le (by omega)]
          simp only [itmsV]
          have hq : (i + 1 == rs.length) = true := by simp [he2]
          rw [go_head M l_docs_items_0.eq_1]
          simp (maxSteps := 3000000) (maxDischargeDepth := 6) +contextual -implicitDefEqProofs only [amC M, ↓amD, Nat.reduceBEq, Nat.reduceAdd, env, fargs, q_docs_items, amG, AV.cell, Nat.reduceMul, Nat.reduceLeDiff, hlt, hx, hw1, hi1, qRune, e37, hq, hp_get0, dn]
        · have hlt2 : i + 1 < rs.length := by omega
          have hx2 : rs[i + 1]? = some rs[i + 1] := List.getElem?_eq_getElem hlt2
          have hd2 : (rs.drop (i + 1)) = rs[i + 1] :: rs.drop (i + 2) := List.drop_eq_getElem_cons hlt2
          have hi2 := ias_row (row := runeRow) (tag := .any) (sz := 1) (k := .i64) hlt2
          have hw2 := wrap_s (n := rs.length) hlt2 (by simp only [maxL]; omega)
          have hq : (i + 1 == rs.length) = false := by simp [he2]
          have gk : ∀ L : List AObj, (G ++ L)[G.length + 1]? = L[1]? := fun L => hp_getk G L 1
          have sk : ∀ (L : List AObj) (x : AObj), (G ++ L).set (G.length + 1) x = G ++ L.set 1 x := fun L x => hp_setk G L 1 x
          rw [hd2]
          dsimp only
          cases hcl : isCls rs[i + 1] with
          | false =>
            simp only [Bool.false_eq_true, if_false, itmsV]
            have hn : ∀ m : Nat, m ∈ [97, 117, 108, 100, 115, 112, 104, 46, 37, 98] → ((rs[i + 1] : Int) == (m : Int)) = false := fun m hm => by
              simp only [beq_eq_false_iff_ne]
              intro e
              have e2 : rs[i + 1] = m := by exact_mod_cast e
              rw [e2] at hcl
              simp [isCls] at hcl hm
              omega
            have n1 := hn 97 (by simp); have n2 := hn 117 (by simp); have n3 := hn 108 (by simp); have n4 := hn 100 (by simp); have n5 := hn 115 (by simp)
            have n6 := hn 112 (by simp); have n7 := hn 104 (by simp); have n8 := hn 46 (by simp); have n9 := hn 37 (by simp); have n0 := hn 98 (by simp)
            rw [show ((97 : Nat) : Int) = 97 from rfl] at n1; rw [show ((117 : Nat) : Int) = 117 from rfl] at n2; rw [show ((108 : Nat) : Int) = 108 from rfl] at n3; rw [show ((100 : Nat) : Int) = 100 from rfl] at n4; rw [show ((115 : Nat) : Int) = 115 from rfl] at n5
            rw [show ((112 : Nat) : Int) = 112 from rfl] at n6; rw [show ((104 : Nat) : Int) = 104 from rfl] at n7; rw [show ((46 : Nat) : Int) = 46 from rfl] at n8; rw [show ((37 : Nat) : Int) = 37 from rfl] at n9; rw [show ((98 : Nat) : Int) = 98 from rfl] at n0
            rw [go_head M l_docs_items_0.eq_1]
            simp (maxSteps := 3000000) (maxDischargeDepth := 6) +contextual -implicitDefEqProofs only [amC M, ↓amD, Nat.reduceBEq, Nat.reduceAdd, env, fargs, q_docs_items, amG, AV.cell, Nat.reduceMul, Nat.reduceLeDiff, hlt, hx, hx2, hw1, hi1, hi2, qRune, e37, hq, gk, sk, n1, n2, n3, n4, n5, n6, n7, n8, n9, n0, List.getElem?_cons_succ, List.set_cons_succ, hp_get0, dn]
          | true =>
            rw [if_pos rfl]
            have hcs : rs[i + 1] = 97 ∨ rs[i + 1] = 117 ∨ rs[i + 1] = 108 ∨ rs[i + 1] = 100 ∨ rs[i + 1] = 115 ∨ rs[i + 1] = 112 ∨ rs[i + 1] = 104 ∨ rs[i + 1] = 46 ∨ rs[i + 1] = 37 ∨ rs[i + 1] = 98 := by simpa [isCls] using hcl
            have ap1 := fun X => ap X (clsV rs[i + 1]) (by unfold clsV; repeat' split
                                                           all_goals rfl) (by unfold clsV; repeat' split
                                                                              all_goals rfl)
            have ih1 := fun X He => ih (i + 1 + 1) ⟨true, (rs[i + 1] : Int)⟩ (clsV rs[i + 1]) X He (by omega) (by omega) (by omega) rfl
            rw [go_head M l_docs_items_0.eq_1]
            rcases hcs with e | e | e | e | e | e | e | e | e | e
            all_goals
              rw [e] at hx2 ap1 ih1 ⊢
              simp only [clsV, if_true, Nat.reduceEqDiff, if_false] at ap1 ih1
              simp only [List.append_assoc, List.cons_append] at ih1
              simp (maxSteps := 3000000) (maxDischargeDepth := 6) +contextual -implicitDefEqProofs only [amC M, ↓amD, Nat.reduceBEq, Nat.reduceAdd, env, fargs, q_docs_items, amG, AV.cell, Nat.reduceMul, Nat.reduceLeDiff, hlt, hx, hx2, hw1, hw2, hi1, hi2, qRune, e37, hq, gk, sk, ap1, ih1, List.getElem?_cons_succ, List.set_cons_succ, hp_get0, castN, Int.reduceBEq, (show AV.nilfn.strip = .nilfn from rfl)]
      · rw [if_neg h37]
        have e37 : (((rs[i] : Nat) : Int) == 37) = false := by simp only [beq_eq_false_iff_ne]; intro e; exact h37 (by exact_mod_cast e)
        have ap1 := fun X => ap X (.fn (.func f_docs_items_1) [] [.ptr G.length 0]) rfl rfl
        have ih1 := fun He => ih (i + 1) ⟨false, (rs[i] : Int)⟩ (.fn (.func f_docs_items_1) [] [.ptr G.length 0]) [.cells [.int .i32 (rs[i] : Int)] t_int32] He (by omega) (by omega) (by omega) ⟨L.length, t_int32, by rw [hL], by simp⟩
        rw [go_head M l_docs_items_0.eq_1]
        simp only [List.append_assoc, List.cons_append] at ih1
        simp (maxSteps := 3000000) (maxDischargeDepth := 6) +contextual -implicitDefEqProofs only [amC M, ↓amD, Nat.reduceBEq, Nat.reduceAdd, env, fargs, q_docs_items, amG, AV.cell, Nat.reduceMul, Nat.reduceLeDiff, hlt, hx, hw1, hi1, qRune, e37, ap1, ih1, hp_get0]
theorem run_items (hB : BasE E) (hX : ExtD M) (hU : BrkE E) {s : Str} (hs : s.length ≤ 1000000) (H : List AObj) : M.run f_docs_items [.str s] H = some (.ret (sel (textF s) (itmsV (fitL (runesL s))) (itmsV none)), H) := by
  rw [run_c M hU.docs_items rfl (c := c_docs_items) rfl, c_docs_items]
  have hT := fun H => run_isText M hB hX (s := s) (by simp only [maxL]; omega) H
  have hrl := runesL_len s
  have hh := fun (o : List AV) (xs : List Fit) (L : List AObj) (h : Itms H.length L xs o) => handV_deep (cut_app H (.tok (o.length * 1) t_docs_item :: L)) ⟨5, fz_itms h⟩
  have h1 := fun k hk He => itl M (H0 := H) (rs := runesL s) (by omega) (k := k) hk ((runesL s).length + 1) 0 [] [] [] He (by omega) (by omega) (by simp) (itms_nil _ _)
  simp only [kv_cons, kv_nil, Int.ofNat_zero, List.drop_zero, List.length_nil, Nat.zero_mul, List.map_nil] at h1
  have h2 := rcvsr_R (s := s) (by omega)
  cases ht : textF s with
  | false => simp (maxSteps := 3000000) (maxDischargeDepth := 6) +contextual -implicitDefEqProofs only [amC M, ↓amD, Nat.reduceBEq, Nat.reduceAdd, env, fargs, q_docs_items, hT, ht, deep_self, itmsV]
  | true =>
  rw [sel_true, fitL]
  simp (maxSteps := 3000000) (maxDischargeDepth := 6) +contextual -implicitDefEqProofs only [amC M, ↓amD, Nat.reduceBEq, Nat.reduceAdd, env, fargs, q_docs_items, hT, ht, h2]
  refine h1 _ (fun o xs L hI => ?_) _
  have hh1 := hh o xs L hI
  simp only [hp_take] at hh1
  simp (maxSteps := 3000000) (maxDischargeDepth := 6) +contextual -implicitDefEqProofs only [amC M, ↓amD, Nat.reduceBEq, Nat.reduceAdd, env, fargs, q_docs_items, hh1]
  rfl

end Go.Am
end

section
set_option linter.unusedSimpArgs false
set_option linter.unusedVariables false
set_option maxRecDepth 100000
set_option maxHeartbeats 4000000
namespace Go.Am
open Go.RowKit
attribute [local congr] dsel_congr sel_c1 slc_cong gsel_congr go_congr aft_congr aftD_congr condR_congr backR_congr inR_congr at2_congr
variable {E : REnv} (M : Mach cdec E)

/-! Which items fit which units: the program's -/
def itmRow (x : Fit) : List AV := [itmF x]
theorem itm_cell (x : Fit) : (itmF x).cell = true := by
  unfold itmF
  cases x.cls with
  | false => rfl
  | true =>
    dsimp only
    unfold clsV
    repeat' split
    all_goals rfl
theorem qItm : (∀ x : Fit, takeO 1 (itmRow x) = some (itmRow x)) ∧ (∀ x : Fit, rload none (itmRow x) 0 = some (itmF x)) ∧ (∀ x : Fit, (itmRow x).length = 1) ∧ (∀ x : Fit, (itmRow x).all AV.cell = true) ∧ (∀ (x : Fit) (c : AV), setRow [c] 0 (itmRow x) = itmRow x) :=
  ⟨fun _ => rfl, fun _ => rfl, fun _ => rfl, fun x => by simp [itmRow, itm_cell], fun _ _ => rfl⟩
theorem run_it1 (hU : BrkE E) (r : Int) (u : Un) (H : List AObj) : M.run f_docs_items_1 [.agg u.row, .vptr 1 [[.int .i32 r]] 0 0] H = some (.ret (.bool (!u.hole && (u.r == r))), H) := by
  rw [run_c M hU.docs_items_1 rfl (c := c_docs_items_1) rfl, c_docs_items_1]
  cases hh : u.hole <;> simp (maxSteps := 3000000) (maxDischargeDepth := 6) +contextual -implicitDefEqProofs only [amC M, ↓amD, Nat.reduceBEq, Nat.reduceAdd, env, fargs, q_docs_items_1, amG, AV.cell, Nat.reduceMul, Nat.reduceLeDiff, qUn, hp_get0, hh, List.getElem?_cons_zero, rowO_some, (show ∀ v : AV, rload none [v] 0 = some v from fun _ => rfl), cut_app, hp_take]
theorem run_it2 (hU : BrkE E) (u : Un) (H : List AObj) : M.run f_docs_items_2 [.agg u.row] H = some (.ret (.bool (!u.hole && decide (65 ≤ u.r) && decide (u.r ≤ 90))), H) := by
  rw [run_c M hU.docs_items_2 rfl (c := c_docs_items_2) rfl, c_docs_items_2]
  cases hh : u.hole <;> simp (maxSteps := 3000000) (maxDischargeDepth := 6) +contextual -implicitDefEqProofs only [amC M, ↓amD, Nat.reduceBEq, Nat.reduceAdd, env, fargs, q_docs_items_2, amG, AV.cell, Nat.reduceMul, Nat.reduceLeDiff, qUn, hp_get0, hh, cut_app, hp_take]
theorem run_it3 (hU : BrkE E) (u : Un) (H : List AObj) : M.run f_docs_items_3 [.agg u.row] H = some (.ret (.bool (!u.hole && decide (97 ≤ u.r) && decide (u.r ≤ 122))), H) := by
  rw [run_c M hU.docs_items_3 rfl (c := c_docs_items_3) rfl, c_docs_items_3]
  cases hh : u.hole <;> simp (maxSteps := 3000000) (maxDischargeDepth := 6) +contextual -implicitDefEqProofs only [amC M, ↓amD, Nat.reduceBEq, Nat.reduceAdd, env, fargs, q_docs_items_3, amG, AV.cell, Nat.reduceMul, Nat.reduceLeDiff, qUn, hp_get0, hh, cut_app, hp_take]
theorem run_it4 (hU : BrkE E) (u : Un) (H : List AObj) : M.run f_docs_items_4 [.agg u.row] H = some (.ret (.bool u.hole), H) := by
  rw [run_c M hU.docs_items_4 rfl (c := c_docs_items_4) rfl, c_docs_items_4]
  simp (maxSteps := 3000000) (maxDischargeDepth := 6) +contextual -implicitDefEqProofs only [amC M, ↓amD, Nat.reduceBEq, Nat.reduceAdd, env, fargs, q_docs_items_4, amG, AV.cell, Nat.reduceMul, Nat.reduceLeDiff, qUn, hp_get0, cut_app, hp_take]
theorem run_it5 (hU : BrkE E) (u : Un) (H : List AObj) : M.run f_docs_items_5 [.agg u.row] H = some (.ret (.bool true), H) := by
  rw [run_c M hU.docs_items_5 rfl (c := c_docs_items_5) rfl, c_docs_items_5]
  simp (maxSteps := 3000000) (maxDischargeDepth := 6) +contextual -implicitDefEqProofs only [amC M, ↓amD, Nat.reduceBEq, Nat.reduceAdd, env, fargs, q_docs_items_5, amG, AV.cell, Nat.reduceMul, Nat.reduceLeDiff, qUn, hp_get0, cut_app, hp_take]
theorem run_it6 (hU : BrkE E) (u : Un) (H : List AObj) : M.run f_docs_items_6 [.agg u.row] H = some (.ret (.bool (!u.hole && (u.r == 37))), H) := by
  rw [run_c M hU.docs_items_6 rfl (c := c_docs_items_6) rfl, c_docs_items_6]
  cases hh : u.hole <;> simp (maxSteps := 3000000) (maxDischargeDepth := 6) +contextual -implicitDefEqProofs only [amC M, ↓amD, Nat.reduceBEq, Nat.reduceAdd, env, fargs, q_docs_items_6, amG, AV.cell, Nat.reduceMul, Nat.reduceLeDiff, qUn, hp_get0, hh, cut_app, hp_take]
theorem qfn : (req .fn .nilfn .nilfn = some true) ∧ (∀ f a b, req .fn (.fn f a b) .nilfn = some false) ∧ (∀ f a b, req .fn .nilfn (.fn f a b) = some false) := ⟨rfl, fun _ _ _ => rfl, fun _ _ _ => rfl⟩
def FitOk (x : Fit) : Prop := x.cls = true → ∃ c : Nat, isCls c = true ∧ x.r = (c : Int)
theorem itm_edge {x : Fit} (h : edgB x = true) : itmF x = .nilfn := by
  simp only [edgB, Bool.and_eq_true, beq_iff_eq] at h
  unfold itmF
  rw [h.1, h.2]; rfl
theorem itm_call (hU : BrkE E) {x : Fit} (hx : FitOk x) (h : edgB x = false) : ∃ f cap, itmF x = .fn (.func f) [] cap ∧ ∀ (u : Un) (H : List AObj), M.run f (.agg u.row :: cap) H = some (.ret (.bool (oneF x u)), H) := by
  cases hc : x.cls with
  | false =>
    refine ⟨f_docs_items_1, [.vptr 1 [[.int .i32 x.r]] 0 0], by unfold itmF; rw [hc], fun u H => ?_⟩
    rw [run_it1 M hU x.r u H, oneF, hc, sel_false]
  | true =>
    obtain ⟨c, h1, h2⟩ := hx hc
    have hcs : c = 97 ∨ c = 117 ∨ c = 108 ∨ c = 100 ∨ c = 115 ∨ c = 112 ∨ c = 104 ∨ c = 46 ∨ c = 37 ∨ c = 98 := by simpa [isCls] using h1
    unfold itmF oneF
    rw [hc, h2]
    rcases hcs with rfl | rfl | rfl | rfl | rfl | rfl | rfl | rfl | rfl | rfl
    · exact ⟨_, [], rfl, fun u H => run_dletter M hU u H⟩
    · exact ⟨_, [], rfl, fun u H => run_it2 M hU u H⟩
    · exact ⟨_, [], rfl, fun u H => run_it3 M hU u H⟩
    · exact ⟨_, [], rfl, fun u H => run_ddigit M hU u H⟩
    · exact ⟨_, [], rfl, fun u H => run_dblank M hU u H⟩
    · exact ⟨_, [], rfl, fun u H => run_dmark M hU u H⟩
    · exact ⟨_, [], rfl, fun u H => run_it4 M hU u H⟩
    · exact ⟨_, [], rfl, fun u H => run_it5 M hU u H⟩
    · exact ⟨_, [], rfl, fun u H => run_it6 M hU u H⟩
    · simp [edgB, hc, h2] at h
theorem fitA_ok : ∀ (n : Nat) (o : List Fit) (l : List Nat) (x : List Fit), (∀ y ∈ o, FitOk y) → fitA n o l = some x → ∀ y ∈ x, FitOk y := by
  intro n
  induction n with
  | zero => intro o l x _ h; cases h
  | succ n IH =>
    intro o l x ho h
    rw [fitA.eq_def] at h
    cases l with
    | nil => cases h; exact ho
    | cons r t =>
      dsimp only at h
      split at h
      · cases t with
        | nil => cases h
        | cons c t =>
          dsimp only at h
          split at h
          · rename_i hcl
            refine IH _ _ _ (fun y hy => ?_) h
            rcases List.mem_append.1 hy with hy | hy
            · exact ho y hy
            · rw [List.mem_singleton] at hy; subst hy; exact fun _ => ⟨c, hcl, rfl⟩
          · cases h
      · refine IH _ _ _ (fun y hy => ?_) h
        rcases List.mem_append.1 hy with hy | hy
        · exact ho y hy
        · rw [List.mem_singleton] at hy; subst hy; exact fun e => by cases e
theorem fitD_ok (s : Str) : ∀ y ∈ fitD s, FitOk y := by
  unfold fitD fitL
  cases h : fitA ((runesL s).length + 1) [] (runesL s) with
  | none => intro y hy; cases hy
  | some x => exact fitA_ok _ _ _ _ (fun y hy => by cases hy) h

theorem dbh {H H0 : List AObj} (hU : BrkE E) {l : List Un} {xs : List Fit} {t tx : Tag} (hl : l.length ≤ maxL) (hx0 : xs.length ≤ maxL) (hxo : ∀ x ∈ xs, FitOk x) (ht : ∀ n, Wk n (.slice t 2 (l.map Un.row)) (.slice t 2 (l.map Un.row))) (htx : ∀ n, Wk n (.slice tx 1 (xs.map itmRow)) (.slice tx 1 (xs.map itmRow))) (hc : CutOk H0 H) (k : List Fra) : ∀ (n i : Nat) (a : Nat) (ha : a ≤ l.length), i + n = xs.length →
    M.go a_docs_behind H0 (.c l_docs_behind_0 :: .lp ⟨(some [1, 2, 9, 10, 11]), [], true⟩ l_docs_behind_0 H :: .blk 0 :: .c (.lv []) :: k) (kv [(1, .slice t 2 (l.map Un.row)), (2, .int .i64 a), (9, .slice tx 1 (xs.map itmRow)), (10, .int .i64 xs.length), (11, .int .i64 i)]) H =
      sel (behF l (xs.drop i) a) (M.go a_docs_behind H0 k .leaf H) (some (.ret (.bool false), H.take H0.length))
  | 0, i, a, ha, h => by
    have e : i = xs.length := by omega
    subst e
    rw [go_head M l_docs_behind_0.eq_1]
    simp (maxSteps := 3000000) (maxDischargeDepth := 6) +contextual -implicitDefEqProofs only [amC M, ↓amD, Nat.reduceBEq, Nat.reduceAdd, env, fargs, q_docs_behind, Nat.lt_irrefl, List.drop_length, behF]
  | n + 1, i, a, ha, h => by
    have hi : i < xs.length := by omega
    have hx : xs[i]? = some xs[i] := List.getElem?_eq_getElem hi
    have hd : (xs.drop i) = xs[i] :: xs.drop (i + 1) := List.drop_eq_getElem_cons hi
    have hm : xs[i] ∈ xs := List.getElem_mem hi
    have ih := fun a ha => dbh (H := H) (H0 := H0) (hU := hU) (l := l) (xs := xs) (t := t) (tx := tx) (hl := hl) (hx0 := hx0) (hxo := hxo) (ht := ht) (htx := htx) hc k n (i + 1) a ha (by omega)
    simp only [kv_cons, kv_nil] at ih
    have hwi := wrap_s (n := xs.length) hi hx0
    have hir := ias_row (row := itmRow) (tag := tx) (sz := 1) (k := .i64) hi
    have hedge := fun H => run_dedge M hU (t := t) hl ha H
    have hce := fun L => cut_more hc L
    have hte := fun L => take_more hc L
    have ht1 := ht H.length
    have ht2 := htx H.length
    cases hb : edgB xs[i] with
    | true =>
      have hq := itm_edge hb
      rw [go_head M l_docs_behind_0.eq_1]
      simp (maxSteps := 3000000) (maxDischargeDepth := 6) +contextual -implicitDefEqProofs only [amC M, ↓amD, Nat.reduceBEq, Nat.reduceAdd, env, fargs, q_docs_behind, amG, AV.cell, Nat.reduceMul, Nat.reduceLeDiff, hi, ih a ha, hx, hd, behF, hb, hc, hwi, hir, qItm, qfn, Option.map_some, hq, hedge, hp_get0, ht1, ht2, hce, hte, cut_app, hp_take]
    | false =>
      obtain ⟨f, cap, hq, hf⟩ := itm_call M hU (hxo _ hm) hb
      by_cases hlt : a < l.length
      · have hla : l[a]? = some l[a] := List.getElem?_eq_getElem hlt
        have hge : (a == l.length) = false := by simp; omega
        have hwa := wrap_s (n := l.length) hlt hl
        have hia := ias_row (row := Un.row) (tag := t) (sz := 2) (k := .i64) hlt
        rw [go_head M l_docs_behind_0.eq_1]
        simp (maxSteps := 3000000) (maxDischargeDepth := 6) +contextual -implicitDefEqProofs only [amC M, ↓amD, Nat.reduceBEq, Nat.reduceAdd, env, fargs, q_docs_behind, amG, AV.cell, Nat.reduceMul, Nat.reduceLeDiff, hi, ih (a + 1) hlt, hx, hd, behF, hb, hc, hwi, hir, qItm, qfn, Option.map_some, hq, hf, hla, hge, hwa, hia, qUn, hp_get0, ht1, ht2, hce, hte, cut_app, hp_take]
      · have hla : l[a]? = none := List.getElem?_eq_none (by omega)
        have hge : (a == l.length) = true := by simp; omega
        rw [go_head M l_docs_behind_0.eq_1]
        simp (maxSteps := 3000000) (maxDischargeDepth := 6) +contextual -implicitDefEqProofs only [amC M, ↓amD, Nat.reduceBEq, Nat.reduceAdd, env, fargs, q_docs_behind, amG, AV.cell, Nat.reduceMul, Nat.reduceLeDiff, hi, hx, hd, behF, hb, hc, hwi, hir, qItm, qfn, Option.map_some, hq, hf, hla, hge, qUn, hp_get0, ht1, ht2, hce, hte, cut_app, hp_take]
theorem run_dbehind (hU : BrkE E) {l : List Un} {xs : List Fit} {t tx : Tag} (hl : l.length ≤ maxL) (hx0 : xs.length ≤ maxL) (hxo : ∀ x ∈ xs, FitOk x) (ht : ∀ n, Wk n (.slice t 2 (l.map Un.row)) (.slice t 2 (l.map Un.row))) (htx : ∀ n, Wk n (.slice tx 1 (xs.map itmRow)) (.slice tx 1 (xs.map itmRow))) {a : Nat} (ha : a ≤ l.length) (H : List AObj) :
    M.run f_docs_behind [.slice tx 1 (xs.map itmRow), .slice t 2 (l.map Un.row), .int .i64 a] H = some (.ret (.bool (behF l xs a)), H) := by
  rw [run_c M hU.docs_behind rfl (c := c_docs_behind) rfl, c_docs_behind]
  have h1 := fun k => dbh M hU (t := t) (tx := tx) hl hx0 hxo ht htx (cut_refl H) k xs.length 0 a ha (by omega)
  simp only [kv_cons, kv_nil, Int.ofNat_zero, List.drop_zero] at h1
  simp (maxSteps := 3000000) (maxDischargeDepth := 6) +contextual -implicitDefEqProofs only [amC M, ↓amD, Nat.reduceBEq, Nat.reduceAdd, env, fargs, q_docs_behind, h1, List.length_map]
def ahdF (l : List Un) : List Fit → Nat → Bool
  | [], _ => true
  | x :: xs, a => sel (edgB x) (edgeU l a && ahdF l xs a) (match a with
    | 0 => false
    | a + 1 => (match l[a]? with
      | some u => oneF x u && ahdF l xs a
      | none => false))
theorem dah (hU : BrkE E) {l : List Un} {xs : List Fit} {t tx : Tag} (hl : l.length ≤ maxL) (hx0 : xs.length ≤ maxL) (hxo : ∀ x ∈ xs, FitOk x) {H H0 : List AObj} (hc : CutOk H0 H) (k : List Fra) : ∀ (n a : Nat) (He : List AObj), n ≤ xs.length → a ≤ l.length →
    M.go a_docs_ahead H0 (.c l_docs_ahead_0 :: .lp ⟨(some [0, 1, 2, 7]), [], false⟩ l_docs_ahead_0 He :: .blk 0 :: .c (.lv []) :: k) (kv [(0, .slice tx 1 (xs.map itmRow)), (1, .slice t 2 (l.map Un.row)), (2, .int .i64 a), (7, .int .i64 ((n : Int) - 1))]) H =
      sel (ahdF l (xs.take n).reverse a) (M.go a_docs_ahead H0 k .leaf H) (some (.ret (.bool false), H.take H0.length))
  | 0, a, He, hn, ha => by
    have h0 : decide ((0 : Int) ≤ ((0 : Nat) : Int) - 1) = false := rfl
    rw [go_head M l_docs_ahead_0.eq_1]
    simp (maxSteps := 3000000) (maxDischargeDepth := 6) +contextual -implicitDefEqProofs only [amC M, ↓amD, Nat.reduceBEq, Nat.reduceAdd, env, fargs, q_docs_ahead, h0, List.take_zero, List.reverse_nil, ahdF]
  | n + 1, a, He, hn, ha => by
    have hi : n < xs.length := by omega
    have hm : xs[n] ∈ xs := List.getElem_mem hi
    have hx : xs[n]? = some xs[n] := List.getElem?_eq_getElem hi
    have hx0' : xs.length ≤ 9223372036854775807 := Nat.le_trans hx0 (by decide)
    have hl' : l.length ≤ 9223372036854775807 := Nat.le_trans hl (by decide)
    have hd : (xs.take (n + 1)).reverse = xs[n] :: (xs.take n).reverse := by rw [List.take_add_one, hx]; simp
    have e1 : ((n + 1 : Nat) : Int) - 1 = (n : Int) := by omega
    have h0 : decide ((0 : Int) ≤ (n : Int)) = true := decide_eq_true (by omega)
    have hw1 : IntKind.i64.wrap ((n : Int) - 1) = (n : Int) - 1 := wrap_i64 (by omega) (by omega)
    have hir := ias_row (row := itmRow) (tag := tx) (sz := 1) (k := .i64) hi
    have hedge := fun H => run_dedge M hU (t := t) hl ha H
    have ih := fun a ha He => dah hU (t := t) (tx := tx) hl hx0 hxo hc k n a He (by omega) ha
    simp only [kv_cons, kv_nil] at ih
    rw [e1, hd]
    cases hb : edgB xs[n] with
    | true =>
      have hq := itm_edge hb
      rw [go_head M l_docs_ahead_0.eq_1]
      simp (maxSteps := 3000000) (maxDischargeDepth := 6) +contextual -implicitDefEqProofs only [amC M, ↓amD, Nat.reduceBEq, Nat.reduceAdd, env, fargs, q_docs_ahead, amG, AV.cell, Nat.reduceMul, Nat.reduceLeDiff, h0, ih a ha, hx, ahdF, hb, hc, hw1, hir, qItm, qfn, Option.map_some, hq, hedge]
    | false =>
      obtain ⟨f, cap, hq, hf⟩ := itm_call M hU (hxo _ hm) hb
      cases a with
      | zero =>
        have hge : (((0 : Nat) : Int) == 0) = true := rfl
        rw [go_head M l_docs_ahead_0.eq_1]
        simp (maxSteps := 3000000) (maxDischargeDepth := 6) +contextual -implicitDefEqProofs only [amC M, ↓amD, Nat.reduceBEq, Nat.reduceAdd, env, fargs, q_docs_ahead, amG, AV.cell, Nat.reduceMul, Nat.reduceLeDiff, h0, hx, ahdF, hb, hc, hw1, hir, qItm, qfn, Option.map_some, hq, hge]
      | succ a =>
        have hlt : a < l.length := by omega
        have hla : l[a]? = some l[a] := List.getElem?_eq_getElem hlt
        have hge : (((a + 1 : Nat) : Int) == 0) = false := by simp; omega
        have e2 : ((a + 1 : Nat) : Int) - 1 = (a : Int) := by omega
        have hwa : IntKind.i64.wrap (((a + 1 : Nat) : Int) - 1) = (a : Int) := by rw [e2]; exact wrap_i64 (by omega) (by omega)
        have hia := ias_row (row := Un.row) (tag := t) (sz := 2) (k := .i64) hlt
        rw [go_head M l_docs_ahead_0.eq_1]
        simp (maxSteps := 3000000) (maxDischargeDepth := 6) +contextual -implicitDefEqProofs only [amC M, ↓amD, Nat.reduceBEq, Nat.reduceAdd, env, fargs, q_docs_ahead, amG, AV.cell, Nat.reduceMul, Nat.reduceLeDiff, h0, ih a (by omega), hx, ahdF, hb, hc, hw1, hir, qItm, qfn, Option.map_some, hq, hf, hla, hge, hwa, hia, qUn]
theorem run_dahead (hU : BrkE E) {l : List Un} {xs : List Fit} {t tx : Tag} (hl : l.length ≤ maxL) (hx0 : xs.length ≤ maxL) (hxo : ∀ x ∈ xs, FitOk x) {a : Nat} (ha : a ≤ l.length) (H : List AObj) :
    M.run f_docs_ahead [.slice tx 1 (xs.map itmRow), .slice t 2 (l.map Un.row), .int .i64 a] H = some (.ret (.bool (ahdF l xs.reverse a)), H) := by
  rw [run_c M hU.docs_ahead rfl (c := c_docs_ahead) rfl, c_docs_ahead]
  have hx0' : xs.length ≤ 9223372036854775807 := Nat.le_trans hx0 (by decide)
  have h1 := fun k He => dah M hU (t := t) (tx := tx) hl hx0 hxo (cut_refl H) k xs.length a He (Nat.le_refl _) ha
  have hw1 : IntKind.i64.wrap ((xs.length : Int) - 1) = (xs.length : Int) - 1 := wrap_i64 (by omega) (by omega)
  simp only [kv_cons, kv_nil, List.take_length] at h1
  simp (maxSteps := 3000000) (maxDischargeDepth := 6) +contextual -implicitDefEqProofs only [amC M, ↓amD, Nat.reduceBEq, Nat.reduceAdd, env, fargs, q_docs_ahead, h1, hw1, List.length_map]
theorem behF_app (l : List Un) : ∀ (xs ys : List Fit) (a : Nat), behF l (xs ++ ys) a = (behF l xs a && behF l ys (a + widF xs))
  | [], ys, a => by simp [behF, widF]
  | x :: xs, ys, a => by
    rw [List.cons_append, behF, behF, widF]
    cases hb : edgB x with
    | true => simp only [sel_true, behF_app l xs ys a, Bool.and_assoc, if_true, Nat.zero_add]
    | false =>
      simp only [sel_false, Bool.false_eq_true, if_false]
      cases l[a]? with
      | none => simp
      | some u =>
        dsimp only
        rw [behF_app l xs ys (a + 1), Bool.and_assoc, show a + 1 + widF xs = a + (1 + widF xs) by omega]
theorem widF_app : ∀ (xs ys : List Fit), widF (xs ++ ys) = widF xs + widF ys
  | [], ys => by simp [widF]
  | x :: xs, ys => by rw [List.cons_append, widF, widF, widF_app xs ys]; omega
theorem ahdF_cons (l : List Un) (x : Fit) (xs : List Fit) (a : Nat) : ahdF l (x :: xs) a = sel (edgB x) (edgeU l a && ahdF l xs a) (match a with
    | 0 => false
    | a + 1 => (match l[a]? with
      | some u => oneF x u && ahdF l xs a
      | none => false)) := by rw [ahdF.eq_def]
theorem ahdF_eq (l : List Un) : ∀ (rs : List Fit) (a : Nat), ahdF l rs a = (decide (widF rs.reverse ≤ a) && behF l rs.reverse (a - widF rs.reverse))
  | [], a => by simp [ahdF, behF, widF]
  | x :: rs, a => by
    rw [ahdF_cons, List.reverse_cons, behF_app, widF_app]
    cases hb : edgB x with
    | true =>
      have w : widF [x] = 0 := by simp [widF, hb]
      rw [w, Nat.add_zero, sel_true, ahdF_eq l rs a]
      by_cases h : widF rs.reverse ≤ a
      · rw [show a - widF rs.reverse + widF rs.reverse = a by omega, behF, hb, sel_true]
        simp [h, behF, Bool.and_comm]
      · simp [h]
    | false =>
      have w : widF [x] = 1 := by simp [widF, hb]
      rw [w, sel_false]
      cases a with
      | zero => simp
      | succ a =>
        dsimp only
        by_cases h : widF rs.reverse ≤ a
        · rw [show a + 1 - (widF rs.reverse + 1) = a - widF rs.reverse by omega, show a - widF rs.reverse + widF rs.reverse = a by omega, ahdF_eq l rs a, behF, hb, sel_false]
          simp only [behF]
          cases l[a]? with
          | none => simp
          | some u => simp [h, Bool.and_comm]
        · have h2 : ¬ widF rs.reverse + 1 ≤ a + 1 := by omega
          rw [ahdF_eq l rs a]
          cases l[a]? <;> simp [h, h2]
def rulRow (r : Brk) : List AV := [.slice .any 1 ((fitD r.bef).map itmRow), .slice .any 1 ((fitD r.aft).map itmRow), .bool r.brk]
theorem itm_wk (n : Nat) (x : Fit) : Wk n (itmF x) (itmF x) := by
  unfold itmF
  cases x.cls with
  | false => exact wk_fn trivial ⟨wk_vptr fun r hr => (by rw [List.mem_singleton] at hr; subst hr; exact ⟨wk_int _ _ _, trivial⟩), trivial⟩
  | true =>
    dsimp only
    unfold clsV
    repeat' split
    all_goals first | exact wk_nilfn n | exact wk_fn trivial trivial
theorem itms_wk (n : Nat) (l : List Fit) : RowsWk n (l.map itmRow) := by
  rw [rowsWk_map]; exact fun x _ => ⟨itm_wk n x, trivial⟩
theorem rul_wk (n : Nat) (l : List Brk) : RowsWk n (l.map rulRow) := by
  rw [rowsWk_map]; exact fun x _ => ⟨wk_slice trivial (itms_wk n _), wk_slice trivial (itms_wk n _), wk_bool _ _, trivial⟩
theorem qRul : (∀ x : Brk, takeO 3 (rulRow x) = some (rulRow x)) ∧ (∀ x : Brk, rload none (rulRow x) 0 = some (.slice .any 1 ((fitD x.bef).map itmRow))) ∧ (∀ x : Brk, rload none (rulRow x) 1 = some (.slice .any 1 ((fitD x.aft).map itmRow))) ∧ (∀ x : Brk, rload none (rulRow x) 2 = some (.bool x.brk)) ∧ (∀ x : Brk, (rulRow x).length = 3) ∧ (∀ x : Brk, (rulRow x).all AV.cell = true) ∧ (∀ (x : Brk) (c0 c1 c2 : AV), setRow [c0, c1, c2] 0 (rulRow x) = rulRow x) :=
  ⟨fun _ => rfl, fun _ => rfl, fun _ => rfl, fun _ => rfl, fun _ => rfl, fun _ => rfl, fun _ _ _ _ => rfl⟩
theorem ruleF_ahd (u : List Un) (a : Nat) (r : Brk) : (ahdF u (fitD r.bef).reverse a && behF u (fitD r.aft) a) = ruleF u a r := by
  rw [ahdF_eq, List.reverse_reverse]; rfl
theorem run_rulefits (hU : BrkE E) {u : List Un} {t : Tag} (hl : u.length ≤ maxL) (r : Brk) (hr1 : r.bef.length ≤ 1000000) (hr2 : r.aft.length ≤ 1000000) (ht : ∀ n, Wk n (.slice t 2 (u.map Un.row)) (.slice t 2 (u.map Un.row))) {a : Nat} (ha : a ≤ u.length) (H : List AObj) :
    M.run f_docs_rule_fits [.agg (rulRow r), .slice t 2 (u.map Un.row), .int .i64 a] H = some (.ret (.bool (ruleF u a r)), H) := by
  rw [run_c M hU.docs_rule_fits rfl (c := c_docs_rule_fits) rfl, c_docs_rule_fits]
  have l1 := fitD_len r.bef
  have l2 := fitD_len r.aft
  have h1 := fun H => run_dahead M hU (t := t) (tx := .any) hl (by simp only [maxL]; omega) (fitD_ok r.bef) ha H
  have h2 := fun H => run_dbehind M hU (t := t) (tx := .any) hl (by simp only [maxL]; omega) (fitD_ok r.aft) ht (fun n => wk_slice trivial (itms_wk n _)) ha H
  rw [← ruleF_ahd]
  cases hb : ahdF u (fitD r.bef).reverse a <;> simp (maxSteps := 3000000) (maxDischargeDepth := 6) +contextual -implicitDefEqProofs only [amC M, ↓amD, Nat.reduceBEq, Nat.reduceAdd, env, fargs, q_docs_rule_fits, amG, AV.cell, Nat.reduceMul, Nat.reduceLeDiff, qRul, hp_get0, h1, h2, hb, cut_app, hp_take]
/-! docs.compiled -/
theorem run_items2 (hB : BasE E) (hX : ExtD M) (hU : BrkE E) {s : Str} (hs : s.length ≤ 1000000) (H : List AObj) : M.run f_docs_items [.str s] H = some (.ret (sel ((fitL (runesL s)).isSome && textF s) (.tuple [.slice .any 1 ((fitD s).map itmRow), .bool true]) (.tuple [.slice .nil 1 [], .bool false])), H) := by
  rw [run_items M hB hX hU hs H, fitD]
  cases textF s <;> cases fitL (runesL s) <;> rfl
theorem dci_step (hB : BasE E) (hX : ExtD M) (hU : BrkE E) {H H0 : List AObj} (hc : CutOk H0 H) {v4 v6 v15 v16 v17 : AV} {q j : Nat} {cs : List AV} {a b s : Str} {T : TypeId} {tg : Tag} (hq : H[q]? = some (.cells cs T)) (hcs : cs.length = 2) (hcl : ∀ c ∈ cs, c.cell = true) (hj : j < 2) (hx : ([a, b] : List Str)[j]? = some s) (hs : s.length ≤ 1000000) (k : List Fra) (He : List AObj) :
    M.go a_docs_compiled H0 (.c l_docs_compiled_0 :: .lp ⟨(some [4, 6, 7, 15, 16, 17, 25, 26, 27]), [], false⟩ l_docs_compiled_0 He :: .blk 2 :: .c (.lv [4, 6, 7, 15, 16, 17]) :: k) (kv [(4, v4), (6, v6), (7, .ptr q 0), (15, v15), (16, v16), (17, v17), (25, .slice tg 1 [[.str a], [.str b]]), (26, .int .i64 2), (27, .int .i64 (j : Int))]) H =
      sel (patE s == 0) ((fun H He => M.go a_docs_compiled H0 (.c l_docs_compiled_0 :: .lp ⟨(some [4, 6, 7, 15, 16, 17, 25, 26, 27]), [], false⟩ l_docs_compiled_0 He :: .blk 2 :: .c (.lv [4, 6, 7, 15, 16, 17]) :: k) (kv [(4, v4), (6, v6), (7, .ptr q 0), (15, v15), (16, v16), (17, v17), (25, .slice tg 1 [[.str a], [.str b]]), (26, .int .i64 2), (27, .int .i64 ((j + 1 : Nat) : Int))]) H) (H.set q (.cells (cs.set j (.slice .any 1 ((fitD s).map itmRow))) T)) (H.set q (.cells (cs.set j (.slice .any 1 ((fitD s).map itmRow))) T))) (some (.ret (.tuple [.slice .any 3 [], .int .u8 (patE s)]), H.take H0.length)) := by
  have hf := fun H => run_items2 M hB hX hU hs H
  have hl := fitD_len s
  have hlt : decide ((j : Int) < 2) = true := decide_eq_true (by omega)
  have hw := wrap_s (n := 2) hj (by simp [maxL])
  have hia : rias 1 (.slice tg 1 [[.str a], [.str b]]) (.int .i64 (j : Int)) = some (.vptr 1 [[.str a], [.str b]] j 0) := by
    have := ias_row (row := strRow) (l := [a, b]) (tag := tg) (sz := 1) (k := .i64) (i := j) (by simpa using hj)
    simpa [strRow] using this
  have hld : rowO none 0 ([[.str a], [.str b]] : List (List AV))[j]? = some (.str s) := by
    rcases j with _ | _ | j
    · cases hx; rfl
    · cases hx; rfl
    · omega
  have hst : setRow cs j [.slice .any 1 ((fitD s).map itmRow)] = cs.set j (.slice .any 1 ((fitD s).map itmRow)) := by rw [setRow_cons, setRow_nil]
  have hso : stO 1 H q j [.slice .any 1 ((fitD s).map itmRow)] (some (.cells cs T)) = some (H.set q (.cells (cs.set j (.slice .any 1 ((fitD s).map itmRow))) T)) := by rw [stO_cells (sz := 1) (old := cs) (off := j) rfl (by omega) rfl, hst]
  rw [go_head M l_docs_compiled_0.eq_1]
  cases h1 : ((fitL (runesL s)).isSome && textF s) with
  | false =>
    simp only [h1, sel_false] at hf
    simp (maxSteps := 3000000) (maxDischargeDepth := 6) +contextual -implicitDefEqProofs only [amC M, ↓amD, Nat.reduceBEq, Nat.reduceAdd, env, fargs, q_docs_compiled, amG, AV.cell, Nat.reduceMul, Nat.reduceLeDiff, hlt, hia, hld, hf, h1, hc, patE, rowsWk_nil, wk_tuple]
    try rfl
  | true =>
    simp only [h1, sel_true] at hf
    cases h3 : decide ((32 : Int) < ((fitD s).length : Int)) with
    | true =>
      simp (maxSteps := 3000000) (maxDischargeDepth := 6) +contextual -implicitDefEqProofs only [amC M, ↓amD, Nat.reduceBEq, Nat.reduceAdd, env, fargs, q_docs_compiled, amG, AV.cell, Nat.reduceMul, Nat.reduceLeDiff, hlt, hia, hld, hf, List.length_map, h1, h3, hc, patE, rowsWk_nil, wk_tuple]
      try rfl
    | false =>
      simp (maxSteps := 3000000) (maxDischargeDepth := 6) +contextual -implicitDefEqProofs only [amC M, ↓amD, Nat.reduceBEq, Nat.reduceAdd, env, fargs, q_docs_compiled, amG, AV.cell, Nat.reduceMul, Nat.reduceLeDiff, hlt, hia, hld, hf, hw, List.length_map, h1, h3, hc, patE, iaa_2 hj, hq, hso, (show ((0 : Int) == 0) = true from rfl)]
theorem dci_end {H H0 : List AObj} {v4 v6 v7 v15 v16 v17 v25 : AV} (k : List Fra) (He : List AObj) :
    M.go a_docs_compiled H0 (.c l_docs_compiled_0 :: .lp ⟨(some [4, 6, 7, 15, 16, 17, 25, 26, 27]), [], false⟩ l_docs_compiled_0 He :: .blk 2 :: .c (.lv [4, 6, 7, 15, 16, 17]) :: k) (kv [(4, v4), (6, v6), (7, v7), (15, v15), (16, v16), (17, v17), (25, v25), (26, .int .i64 2), (27, .int .i64 2)]) H = M.go a_docs_compiled H0 k (kv [(4, v4), (6, v6), (7, v7), (15, v15), (16, v16), (17, v17)]) H := by
  rw [go_head M l_docs_compiled_0.eq_1]
  simp (maxSteps := 3000000) (maxDischargeDepth := 6) +contextual -implicitDefEqProofs only [amC M, ↓amD, Nat.reduceBEq, Nat.reduceAdd, env, fargs, q_docs_compiled, (show decide ((2 : Int) < 2) = false from rfl)]
def cmpV (l : List Brk) : AV := sel (checkB l == 0) (.tuple [.slice .any 3 (l.map rulRow), .int .u8 0]) (.tuple [.slice .any 3 [], .int .u8 (checkB l)])
theorem dco (hB : BasE E) (hX : ExtD M) (hU : BrkE E) {l : Sl Brk} {m0 : Nat} (hl : l.ok m0 (Brk.ok m0)) (hr0 : l.l.length ≤ 1000) (hr : ∀ r ∈ l.l, r.bef.length ≤ 1000000 ∧ r.aft.length ≤ 1000000) {H0 : List AObj} (hm0 : m0 ≤ H0.length) (k : List Fra) :
    ∀ (n i : Nat) (o : List Brk), i + n = l.l.length → o.length ≤ i →
    M.go a_docs_compiled H0 (.c l_docs_compiled_1 :: .lp ⟨(some [4, 15, 16, 17]), [(4, 3, t_docs_rule)], true⟩ l_docs_compiled_1 (H0 ++ [.tok (o.length * 3) t_docs_rule]) :: .blk 0 :: .c (.lv [4]) :: k) (kv [(4, .slice (.own H0.length) 3 (o.map rulRow)), (15, .slice l.tag 3 (l.l.map Brk.row)), (16, .int .i64 l.l.length), (17, .int .i64 i)]) (H0 ++ [.tok (o.length * 3) t_docs_rule]) =
      sel (rulesE (l.l.drop i) == 0) (M.go a_docs_compiled H0 k (kv [(4, .slice (.own H0.length) 3 ((o ++ l.l.drop i).map rulRow))]) (H0 ++ [.tok ((o ++ l.l.drop i).length * 3) t_docs_rule])) (some (.ret (.tuple [.slice .any 3 [], .int .u8 (rulesE (l.l.drop i))]), H0))
  | 0, i, o, h, ho => by
    have e : i = l.l.length := by omega
    subst e
    rw [go_head M l_docs_compiled_1.eq_1]
    simp (maxSteps := 3000000) (maxDischargeDepth := 6) +contextual -implicitDefEqProofs only [amC M, ↓amD, Nat.reduceBEq, Nat.reduceAdd, env, fargs, q_docs_compiled, Nat.lt_irrefl, List.drop_length, rulesE, (show ((0 : Int) == 0) = true from rfl), List.append_nil]
  | n + 1, i, o, h, ho => by
    have hi : i < l.l.length := by omega
    have hx : l.l[i]? = some l.l[i] := List.getElem?_eq_getElem hi
    have hd : (l.l.drop i) = l.l[i] :: l.l.drop (i + 1) := List.drop_eq_getElem_cons hi
    have hm1 := hr _ (List.getElem_mem hi)
    have w1 : Wk (H0.length + 1) (.slice l.tag 3 (l.l.map Brk.row)) (.slice l.tag 3 (l.l.map Brk.row)) := (hl.mono (by omega) (fun _ h => h.mono (by omega))).wk (fun _ h => h.wk)
    have w2 := fun o : List Brk => wk_slice (n := H0.length + 1) (esz := 3) (tag := .own H0.length) (by simp [tagLt]) (rul_wk _ o)
    have hwi := wrap_s (n := l.l.length) hi (by simp only [maxL]; omega)
    have hir := ias_row (row := Brk.row) (tag := l.tag) (sz := 3) (k := .i64) hi
    have ih := dco hB hX hU hl hr0 hr (H0 := H0) hm0 k n (i + 1) (o ++ [l.l[i]]) (by omega) (by simp; omega)
    simp only [kv_cons, kv_nil] at ih
    have ap := fun L => ap_ownL (row := rulRow) (l := o) (x := l.l[i]) (r := [.slice .any 1 ((fitD l.l[i].bef).map itmRow), .slice .any 1 ((fitD l.l[i].aft).map itmRow), .bool l.l[i].brk]) (sz := 3) (bytes := 56) (e := t_docs_rule) H0 L rfl rfl rfl (by omega) (by omega)
    have g1 : ∀ L : List AObj, (H0 ++ L)[H0.length + 1]? = L[1]? := fun L => hp_getk H0 L 1
    have g2 : ∀ L : List AObj, (H0 ++ L)[H0.length + 2]? = L[2]? := fun L => hp_getk H0 L 2
    have k1 : ∀ (L : List AObj) (x : AObj), (H0 ++ L).set (H0.length + 1) x = H0 ++ L.set 1 x := fun L x => hp_setk H0 L 1 x
    have k2 : ∀ (L : List AObj) (x : AObj), (H0 ++ L).set (H0.length + 2) x = H0 ++ L.set 2 x := fun L x => hp_setk H0 L 2 x
    have s0 := fun v4 v6 v15 v16 v17 (k : List Fra) He => dci_step M hB hX hU (H := H0 ++ [.tok (o.length * 3) t_docs_rule, .cells (Brk.row l.l[i]) t_api_Break, .cells [.slice .nil 1 [], .slice .nil 1 []] t_2_sl_docs_item]) (cut_app H0 _) (v4 := v4) (v6 := v6) (v15 := v15) (v16 := v16) (v17 := v17) (q := H0.length + 2) (cs := [.slice .nil 1 [], .slice .nil 1 []]) (T := t_2_sl_docs_item) (tg := .full) (a := l.l[i].bef) (b := l.l[i].aft) (s := l.l[i].bef) (j := 0) (g2 _) rfl (by simp [AV.cell]) (by omega) rfl hm1.1 k He
    have s1 := fun v4 v6 v15 v16 v17 (k : List Fra) He => dci_step M hB hX hU (H := H0 ++ [.tok (o.length * 3) t_docs_rule, .cells (Brk.row l.l[i]) t_api_Break, .cells [.slice .any 1 ((fitD l.l[i].bef).map itmRow), .slice .nil 1 []] t_2_sl_docs_item]) (cut_app H0 _) (v4 := v4) (v6 := v6) (v15 := v15) (v16 := v16) (v17 := v17) (q := H0.length + 2) (cs := [.slice .any 1 ((fitD l.l[i].bef).map itmRow), .slice .nil 1 []]) (T := t_2_sl_docs_item) (tg := .full) (a := l.l[i].bef) (b := l.l[i].aft) (s := l.l[i].aft) (j := 1) (g2 _) rfl (by simp [AV.cell]) (by omega) rfl hm1.2 k He
    have s2 := fun v4 v6 v7 v15 v16 v17 v25 (k : List Fra) He => dci_end M (H := H0 ++ [.tok (o.length * 3) t_docs_rule, .cells (Brk.row l.l[i]) t_api_Break, .cells [.slice .any 1 ((fitD l.l[i].bef).map itmRow), .slice .any 1 ((fitD l.l[i].aft).map itmRow)] t_2_sl_docs_item]) (H0 := H0) (v4 := v4) (v6 := v6) (v7 := v7) (v15 := v15) (v16 := v16) (v17 := v17) (v25 := v25) k He
    simp only [kv_cons, kv_nil, Int.ofNat_zero, Nat.zero_add, show ((1 : Nat) : Int) = 1 from rfl, show ((1 + 1 : Nat) : Int) = 2 from rfl, k2, List.set_cons_succ, List.set_cons_zero] at s0 s1 s2
    rw [hd, show o ++ l.l[i] :: l.l.drop (i + 1) = o ++ [l.l[i]] ++ l.l.drop (i + 1) by simp]
    rw [go_head M l_docs_compiled_1.eq_1]
    simp (maxSteps := 3000000) (maxDischargeDepth := 6) +contextual -implicitDefEqProofs only [amC M, ↓amD, Nat.reduceBEq, Nat.reduceAdd, env, fargs, q_docs_compiled, amG, AV.cell, Nat.reduceMul, Nat.reduceLeDiff, hi, hx, ih, rulesE, w1, w2, hwi, hir, qBrk, s0, s1, s2, g1, g2, k1, k2, ap, (show ∀ q, riaa 2 1 (.ptr q 0) (.int .i64 0) = some (.ptr q 0) from fun q => iaa_2 (j := 0) (by omega) _), (show ∀ q, riaa 2 1 (.ptr q 0) (.int .i64 1) = some (.ptr q 1) from fun q => iaa_2 (j := 1) (by omega) _), List.getElem?_cons_succ, List.set_cons_succ, cut_tok, take_tok, cut_app, hp_take, (show ((2 : Nat) : Int) = 2 from rfl)]
    cases h1 : patE l.l[i].bef == 0 with
    | false =>
      show _ = slc (patE l.l[i].bef == 0) _ _
      rw [h1]; rfl
    | true =>
      cases h2 : patE l.l[i].aft == 0 with
      | false =>
        show _ = slc (patE l.l[i].aft == 0) _ _
        rw [h2]; rfl
      | true => rfl
theorem run_compiled (hB : BasE E) (hX : ExtD M) (hU : BrkE E) {l : Sl Brk} {m0 : Nat} (hl : l.ok m0 (Brk.ok m0)) (hr0 : l.l.length ≤ 1000) (hr : l.l.length ≤ 64 → ∀ r ∈ l.l, r.bef.length ≤ 1000000 ∧ r.aft.length ≤ 1000000) (H : List AObj) (hm0 : m0 ≤ H.length := by exact Nat.zero_le _) :
    M.run f_docs_compiled [.slice l.tag 3 (l.l.map Brk.row)] H = some (.ret (cmpV l.l), H) := by
  rw [run_c M hU.docs_compiled rfl (c := c_docs_compiled) rfl, c_docs_compiled]
  have h1 := fun (h64 : l.l.length ≤ 64) k => dco M hB hX hU hl hr0 (hr h64) (H0 := H) hm0 k l.l.length 0 [] (by omega) (by simp)
  simp only [kv_cons, kv_nil, Int.ofNat_zero, List.drop_zero, List.nil_append, List.length_nil, Nat.zero_mul, List.map_nil] at h1
  cases h : decide ((64 : Int) < (l.l.length : Int)) with
  | true => simp (maxSteps := 3000000) (maxDischargeDepth := 6) +contextual -implicitDefEqProofs only [amC M, ↓amD, Nat.reduceBEq, Nat.reduceAdd, env, fargs, q_docs_compiled, List.length_map, h, checkB, cmpV, rowsWk_nil, wk_tuple, cut_refl, hp_self, (show ((3 : Int) == 0) = false from rfl)]
  | false =>
    have h1 := h1 (by have := of_decide_eq_false h; omega)
    have hc : checkB l.l = rulesE l.l := by rw [checkB, h, sel_false]
    cases h2 : rulesE l.l == 0 with
    | true =>
      simp only [h2, sel_true] at h1
      have h3 : rulesE l.l = 0 := by simpa using h2
      have hh := handV_drop (cut_app H [.tok (l.l.length * 3) t_docs_rule]) (wk_tuple (xs := [.slice (.own H.length) 3 (l.l.map rulRow), .int .u8 0]) ⟨wk_any (esz := 3) (tag := .own H.length) (rul_wk H.length l.l), wk_int _ _ 0, trivial⟩)
      simp only [anyV_tuple, hp_take] at hh
      rw [cmpV, hc, h2, sel_true]
      simp (maxSteps := 3000000) (maxDischargeDepth := 6) +contextual -implicitDefEqProofs only [amC M, ↓amD, Nat.reduceBEq, Nat.reduceAdd, env, fargs, q_docs_compiled, List.length_map, h, h1, hh]
    | false =>
      simp only [h2, sel_false] at h1
      rw [cmpV, hc, h2, sel_false]
      simp (maxSteps := 3000000) (maxDischargeDepth := 6) +contextual -implicitDefEqProofs only [amC M, ↓amD, Nat.reduceBEq, Nat.reduceAdd, env, fargs, q_docs_compiled, List.length_map, h, h1, hp_self]
end Go.Am
end

section
set_option linter.unusedSimpArgs false
set_option linter.unusedVariables false
set_option maxRecDepth 100000
set_option maxHeartbeats 4000000
namespace Go.Am
open Go.RowKit
attribute [local congr] dsel_congr sel_c1 slc_cong gsel_congr go_congr aft_congr aftD_congr condR_congr backR_congr inR_congr at2_congr
variable {E : REnv} (M : Mach cdec E)

/-! The units of a list: the program's -/
structure UntE (E : REnv) : Prop where
  seq : E.seq f_docs_units_1 = unitSeq
  sar : E.sar f_docs_units_1 = 1
theorem ap_at {α : Type} {row : α → List AV} {l : List α} {x : α} {r : List AV} {sz bytes t : Nat} {e : TypeId} {H : List AObj} (ht : H[t]? = some (.tok (l.length * sz) e)) (h1 : r.length = sz) (h2 : r.all AV.cell = true) (h3 : r.map AV.strip = row x)
    (hl : (l.length + 1) * bytes ≤ 140737488355328) (hl2 : l.length + 1 ≤ 4611686018427387904) :
    rap false H e sz bytes false (.slice (.own t) sz (l.map row)) (.slice .full sz [r]) = some (.slice (.own t) sz ((l ++ [x]).map row), H.set t (.tok ((l ++ [x]).length * sz) e)) := by
  simp only [rap, rapp, rsrc, List.length_map, List.length_cons, List.length_nil, Nat.zero_add, or_true, if_true, hl, hl2, rowsOk_one h1 h2, and_true, true_and, ht, List.map_cons, List.map_nil, h3, List.map_append, List.length_append, Nat.add_mul, Nat.one_mul]
  rw [Nat.add_mul, Nat.one_mul] at hl
  rw [if_pos hl]
theorem ap_new {sz bytes : Nat} {e : TypeId} {r : List AV} (H : List AObj) (h1 : r.length = sz) (h2 : r.all AV.cell = true) (hb : bytes ≤ 140737488355328) :
    rap false H e sz bytes false (.slice .nil sz []) (.slice .full sz [r]) = some (.slice (.own H.length) sz [r.map AV.strip], H ++ [.tok sz e]) := by
  simp only [rap, rapp, rsrc, List.length_cons, List.length_nil, Nat.zero_add, or_true, if_true, rowsOk_one h1 h2, and_true, true_and, List.map_cons, List.map_nil, Nat.one_mul]
  rw [if_pos ⟨hb, by omega⟩]; rfl
theorem run_dunits (hU : BrkE E) {l : List Piece} {t : Tag} (H : List AObj) : M.run f_docs_units [.slice t 3 (l.map Piece.row)] H = some (.ret (.fn (.func f_docs_units_1) [] [.ptr H.length 0]), H ++ [.cells [.slice t 3 (l.map Piece.row)] t_sl_api_Piece]) := by
  rw [run_c M hU.docs_units rfl (c := c_docs_units) rfl, c_docs_units]
  simp (maxSteps := 3000000) (maxDischargeDepth := 6) +contextual -implicitDefEqProofs only [amC M, ↓amD, Nat.reduceBEq, Nat.reduceAdd, env, fargs, q_docs_units, amG, AV.cell, Nat.reduceMul, Nat.reduceLeDiff]
theorem unitRows_eq : ∀ l : List Piece, unitRows (l.map Piece.row) = some ((unL l).map fun u => [.agg u.row])
  | [] => rfl
  | x :: l => by
    rw [List.map_cons, show Piece.row x = [.int .u8 x.kind, .str x.text, .bool x.car] from rfl, unitRows, unitRows_eq l]
    show _ = some ((unP x ++ unL l).map _)
    rw [List.map_append]
    dsimp only
    by_cases h5 : x.kind = 5
    · rw [if_pos h5, unP, h5]; rfl
    · have e5 : (x.kind == 5) = false := by simpa using h5
      rw [if_neg h5, unP, e5, sel_false]
      by_cases h1 : x.kind = 1
      · rw [if_pos h1, h1]
        show _ = some (((runesL x.text).map unR).map _ ++ _)
        rw [runesOf_L, List.map_map, List.map_map]; rfl
      · have e1 : (x.kind == 1) = false := by simpa using h1
        rw [if_neg h1, e1]; rfl
/-- The heap while units are collected. -/
def uX (b : Nat) : List Un → List AObj
  | [] => [.cells [.slice .nil 2 []] t_sl_docs_unit]
  | x :: l => .cells [.slice (.own (b + 2)) 2 ((x :: l).map Un.row)] t_sl_docs_unit :: .cells x.row t_docs_unit :: .tok ((x :: l).length * 2) t_docs_unit :: l.map fun u => .cells u.row t_docs_unit
theorem noIt_uX (H : List AObj) (b : Nat) (l : List Un) : noIt (H ++ uX b []) (H ++ uX b l) = true := noIt_app H (by
  have h : ∀ l : List Un, noIt [] (l.map fun u => AObj.cells u.row t_docs_unit) = true := fun l => by
    induction l with
    | nil => rfl
    | cons x l ih => simpa [noIt, isIt] using ih
  cases l with
  | nil => rfl
  | cons x l => simpa [uX, noIt, isIt] using h l)
theorem uRounds {H : List AObj} {e : Env} (he2 : fget e 2 = .ptr H.length 0) : ∀ (xs st : List Un), st.length + xs.length ≤ 1000000 →
    rounds cdec M.go (rfnOf a_slices_AppendSeq_docs_unit_docs_unit) [7] [[⟨some 5, none, .op (.nw [.int .i32 0, .bool false] t_docs_unit)⟩, ⟨none, none, .op (.st 2 (.t 5) (.t 7))⟩]] r_slices_AppendSeq_docs_unit_docs_unit_0 e [] (H ++ uX H.length []) (xs.map fun u => [.agg u.row]) (H ++ uX H.length st) = some (none, H ++ uX H.length (st ++ xs))
  | [], st, _ => by rw [List.append_nil]; rfl
  | x :: xs, st, hb => by
    have q1 : (rfnOf a_slices_AppendSeq_docs_unit_docs_unit).dfr = some ([], .c .unk, .bad) := rfl
    have q2 : (rfnOf a_slices_AppendSeq_docs_unit_docs_unit).mode = .keep := rfl
    have q3 : (rfnOf a_slices_AppendSeq_docs_unit_docs_unit).res = [] := rfl
    have ih := uRounds he2 xs (st ++ [x]) (by simp at hb ⊢; omega)
    rw [List.append_assoc] at ih
    rw [List.map_cons]
    refine rnd_cons ?_ (noIt_uX H H.length (st ++ [x])) (fun _ h => by cases h) ih
    generalize rfnOf a_slices_AppendSeq_docs_unit_docs_unit = rf at q1 q2 q3
    cases st with
    | nil =>
      have gk : ∀ L : List AObj, (H ++ L)[H.length + 1]? = L[1]? := fun L => hp_getk H L 1
      have sk : ∀ (L : List AObj) (x : AObj), (H ++ L).set (H.length + 1) x = H ++ L.set 1 x := fun L x => hp_setk H L 1 x
      have ap : rap false (H ++ [.cells [.slice .nil 2 []] t_sl_docs_unit, .cells x.row t_docs_unit]) t_docs_unit 2 8 false (.slice .nil 2 []) (.slice .full 2 [x.row]) = some (.slice (.own (H.length + 2)) 2 [x.row], H ++ [.cells [.slice .nil 2 []] t_sl_docs_unit, .cells x.row t_docs_unit, .tok 2 t_docs_unit]) := by
        rw [ap_new (sz := 2) (bytes := 8) (r := x.row) _ rfl rfl (by omega)]; simp [Un.row, AV.strip]
      simp only [List.nil_append, uX, fsetL, List.map_cons, List.map_nil, List.cons_append, kv_cons, kv_nil, r_slices_AppendSeq_docs_unit_docs_unit_0, List.length_cons, List.length_nil, Nat.zero_add, Nat.one_mul] at ap ⊢
      simp (maxSteps := 3000000) (maxDischargeDepth := 6) +contextual -implicitDefEqProofs only [amC M, ↓amD, Nat.reduceBEq, Nat.reduceAdd, env, fargs, q_slices_AppendSeq_docs_unit_docs_unit, amG, AV.cell, Nat.reduceMul, Nat.reduceLeDiff, q1, q2, q3, he2, ap, qUn, gk, sk, List.getElem?_cons_succ, List.set_cons_succ]
    | cons y st =>
      have hG : H ++ uX H.length (y :: st) = H ++ (.cells [.slice (.own (H.length + 2)) 2 ((y :: st).map Un.row)] t_sl_docs_unit :: .cells y.row t_docs_unit :: .tok ((y :: st).length * 2) t_docs_unit :: st.map fun u => .cells u.row t_docs_unit) := rfl
      obtain ⟨G2, hG2⟩ : ∃ G2, G2 = H ++ (.cells [.slice (.own (H.length + 2)) 2 ((y :: st).map Un.row)] t_sl_docs_unit :: .cells y.row t_docs_unit :: .tok ((y :: st ++ [x]).length * 2) t_docs_unit :: st.map fun u => .cells u.row t_docs_unit) := ⟨_, rfl⟩
      have gg : ∀ X, (H ++ uX H.length (y :: st) ++ X)[H.length]? = some (.cells [.slice (.own (H.length + 2)) 2 ((y :: st).map Un.row)] t_sl_docs_unit) := fun X => by rw [hG, List.append_assoc, hp_get0]; rfl
      have gg2 : ∀ X, (G2 ++ X)[H.length]? = some (.cells [.slice (.own (H.length + 2)) 2 ((y :: st).map Un.row)] t_sl_docs_unit) := fun X => by rw [hG2, List.append_assoc, hp_get0]; rfl
      have ap : ∀ X, rap false (H ++ uX H.length (y :: st) ++ X) t_docs_unit 2 8 false (.slice (.own (H.length + 2)) 2 ((y :: st).map Un.row)) (.slice .full 2 [x.row]) = some (.slice (.own (H.length + 2)) 2 ((y :: st ++ [x]).map Un.row), G2 ++ X) := fun X => by
        rw [hG2, hG, ap_at (row := Un.row) (l := y :: st) (x := x) (r := x.row) (sz := 2) (bytes := 8) (by rw [List.append_assoc, hp_getk]; rfl) rfl rfl rfl (by simp at hb ⊢; omega) (by simp at hb ⊢; omega), List.append_assoc, List.append_assoc, hp_setk]; rfl
      have hs : (G2 ++ [AObj.cells x.row t_docs_unit]).set H.length (AObj.cells [.slice (.own (H.length + 2)) 2 ((y :: st ++ [x]).map Un.row)] t_sl_docs_unit) = H ++ uX H.length (y :: st ++ [x]) := by
        rw [hG2, List.append_assoc, hp_set0, List.cons_append, List.set_cons_zero]
        simp [uX]
      clear hG hG2
      simp only [fsetL, List.map_cons, List.map_nil, List.cons_append, List.nil_append, kv_cons, kv_nil, r_slices_AppendSeq_docs_unit_docs_unit_0] at gg gg2 ap hs ⊢
      generalize H ++ uX H.length (y :: st) = G at *
      generalize H ++ uX H.length (y :: (st ++ [x])) = G3 at *
      simp (maxSteps := 3000000) (maxDischargeDepth := 6) +contextual -implicitDefEqProofs only [amC M, ↓amD, Nat.reduceBEq, Nat.reduceAdd, env, fargs, q_slices_AppendSeq_docs_unit_docs_unit, amG, AV.cell, Nat.reduceMul, Nat.reduceLeDiff, q1, q2, q3, he2, ap, gg, gg2, hs, qUn, hp_get0]
theorem un_wk (n : Nat) (l : List Un) : RowsWk n (l.map Un.row) := by
  rw [rowsWk_map]; exact fun _ _ => ⟨wk_int _ _ _, wk_bool _ _, trivial⟩
theorem run_AppendSeq (hU : BrkE E) (hN : UntE E) {l : List Piece} {t : Tag} {H : List AObj} {id : Nat} {T : TypeId} (hl : l.length ≤ 1000000) (hu : (unL l).length ≤ 1000000) (hid : H[id]? = some (.cells [.slice t 3 (l.map Piece.row)] T)) : M.run f_slices_AppendSeq_docs_unit_docs_unit [.slice .nil 2 [], .fn (.func f_docs_units_1) [] [.ptr id 0]] H = some (.ret (.slice .any 2 ((unL l).map Un.row)), H) := by
  have hs : E.seq f_docs_units_1 [.ptr id 0] (H ++ uX H.length []) = some ((unL l).map fun u => [.agg u.row], []) := by
    rw [hN.seq]
    have h1 : (H ++ uX H.length [])[id]? = some (.cells [.slice t 3 (l.map Piece.row)] T) := hp_getl hid
    have h2 : Nat.ble (l.map Piece.row).length 9223372036854775807 = true := by rw [Nat.ble_eq, List.length_map]; omega
    simp only [unitSeq, h1, unitRows_eq, h2, cond_true]
  rw [run_c M hU.slices_AppendSeq_docs_unit_docs_unit rfl (c := c_slices_AppendSeq_docs_unit_docs_unit) rfl, c_slices_AppendSeq_docs_unit_docs_unit]
  have he := fun (k : List Fra) (e : Env) (H0 : List AObj) (he2 : fget e 2 = .ptr H.length 0) => by
    have hrr := uRounds M (H := H) he2 (unL l) [] (by simpa using hu)
    rw [List.nil_append] at hrr
    exact rfn_eq (M := M) (ps := [7]) (fn := a_slices_AppendSeq_docs_unit_docs_unit) (k := k) (a := e) (H0 := H0) _ hs hN.sar hrr
  cases hq : unL l with
  | nil =>
    rw [hq] at he
    simp only [uX] at he
    simp (maxSteps := 3000000) (maxDischargeDepth := 6) +contextual -implicitDefEqProofs only [amC M, ↓amD, Nat.reduceBEq, Nat.reduceAdd, env, fargs, q_slices_AppendSeq_docs_unit_docs_unit, amG, AV.cell, Nat.reduceMul, Nat.reduceLeDiff, he, rfnC_none, go_rfn, rowsWk_nil, hp_get0, cut_app, hp_take]
  | cons x xs =>
    rw [hq] at he
    have hh := handV_drop (cut_app H (uX H.length (x :: xs))) (wk_any (esz := 2) (tag := .own (H.length + 2)) (un_wk H.length (x :: xs)))
    simp only [uX, List.length_cons, hp_take, anyV_slice] at he hh
    simp (maxSteps := 3000000) (maxDischargeDepth := 6) +contextual -implicitDefEqProofs only [amC M, ↓amD, Nat.reduceBEq, Nat.reduceAdd, env, fargs, q_slices_AppendSeq_docs_unit_docs_unit, amG, AV.cell, Nat.reduceMul, Nat.reduceLeDiff, he, rfnC_none, go_rfn, hp_get0, hh, hp_take]
theorem run_Collect (hU : BrkE E) (hN : UntE E) {l : List Piece} {t : Tag} {H : List AObj} {id : Nat} {T : TypeId} (hl : l.length ≤ 1000000) (hu : (unL l).length ≤ 1000000) (hid : H[id]? = some (.cells [.slice t 3 (l.map Piece.row)] T)) : M.run f_slices_Collect_docs_unit [.fn (.func f_docs_units_1) [] [.ptr id 0]] H = some (.ret (.slice .any 2 ((unL l).map Un.row)), H) := by
  rw [run_c M hU.slices_Collect_docs_unit rfl (c := c_slices_Collect_docs_unit) rfl, c_slices_Collect_docs_unit]
  have h1 := run_AppendSeq M hU hN hl hu hid
  have hh := handV_drop (cut_refl H) (wk_any (esz := 2) (tag := .any) (un_wk H.length (unL l)))
  simp only [anyV_slice, hp_self] at hh
  simp (maxSteps := 3000000) (maxDischargeDepth := 6) +contextual -implicitDefEqProofs only [amC M, ↓amD, Nat.reduceBEq, Nat.reduceAdd, env, fargs, q_slices_Collect_docs_unit, h1, hh]
end Go.Am
end

section
set_option linter.unusedSimpArgs false
set_option linter.unusedVariables false
set_option maxRecDepth 100000
set_option maxHeartbeats 4000000
namespace Go.Am
open Go.RowKit
attribute [local congr] dsel_congr sel_c1 slc_cong gsel_congr go_congr aft_congr aftD_congr condR_congr backR_congr inR_congr at2_congr
variable {E : REnv} (M : Mach cdec E)

/-! The places with breaks: the program's -/
theorem dpi (hU : BrkE E) {rs : List Brk} {u : List Un} (hu : u.length ≤ 1000000) (hr0 : rs.length ≤ maxL) (hr : ∀ r ∈ rs, r.bef.length ≤ 1000000 ∧ r.aft.length ≤ 1000000) {H H0 : List AObj} {a : Nat} (ha : a ≤ u.length) {o : List Int} (ho : o.length ≤ 1000000) {k : List Fra} {R : Option Out}
    (hk : ∀ X, M.go a_docs_places H0 k (kv [(0, .slice .any 3 (rs.map rulRow)), (5, .slice .any 2 (u.map Un.row)), (6, .slice (.own H.length) 1 ((o ++ sel (brkF u a rs) [(a : Int)] []).map intRow)), (7, .int .i64 a)]) (H ++ (.tok ((o ++ sel (brkF u a rs) [(a : Int)] []).length * 1) t_int :: X)) = R) :
    ∀ (n i : Nat), i + n = rs.length → brkF u a (rs.drop i) = brkF u a rs →
    M.go a_docs_places H0 (.c l_docs_places_0 :: .lp ⟨(some [0, 5, 6, 7, 19, 20, 21]), [(6, 1, t_int)], true⟩ l_docs_places_0 (H ++ [.tok (o.length * 1) t_int]) :: .blk 2 :: .c (.lv [0, 5, 6, 7]) :: k) (kv [(0, .slice .any 3 (rs.map rulRow)), (5, .slice .any 2 (u.map Un.row)), (6, .slice (.own H.length) 1 (o.map intRow)), (7, .int .i64 a), (19, .slice .any 3 (rs.map rulRow)), (20, .int .i64 rs.length), (21, .int .i64 i)]) (H ++ [.tok (o.length * 1) t_int]) = R
  | 0, i, h, hb => by
    have e : i = rs.length := by omega
    subst e
    have h1 := hk []
    rw [List.drop_length] at hb
    rw [← hb, brkF, sel_false, List.append_nil] at h1
    simp only [kv_cons, kv_nil] at h1
    rw [go_head M l_docs_places_0.eq_1]
    simp (maxSteps := 3000000) (maxDischargeDepth := 6) +contextual -implicitDefEqProofs only [amC M, ↓amD, Nat.reduceBEq, Nat.reduceAdd, env, fargs, q_docs_places, Nat.lt_irrefl, h1]
  | n + 1, i, h, hb => by
    have hi : i < rs.length := by omega
    have hx : rs[i]? = some rs[i] := List.getElem?_eq_getElem hi
    have hd : (rs.drop i) = rs[i] :: rs.drop (i + 1) := List.drop_eq_getElem_cons hi
    have hm1 := hr _ (List.getElem_mem hi)
    have hf := fun H => run_rulefits M hU (u := u) (t := .any) (by simp only [maxL]; omega) rs[i] hm1.1 hm1.2 (fun n => wk_slice trivial (un_wk n u)) ha H
    have hwi := wrap_s (n := rs.length) hi hr0
    have hir := ias_row (row := rulRow) (tag := .any) (sz := 3) (k := .i64) hi
    have w1 : Wk (H.length + 1) (.slice .any 3 (rs.map rulRow)) (.slice .any 3 (rs.map rulRow)) := wk_slice trivial (rul_wk _ _)
    have w2 : Wk (H.length + 1) (.slice .any 2 (u.map Un.row)) (.slice .any 2 (u.map Un.row)) := wk_slice trivial (un_wk _ _)
    have w3 : Wk (H.length + 1) (.slice (.own H.length) 1 (o.map intRow)) (.slice (.own H.length) 1 (o.map intRow)) := wk_slice (by simp [tagLt]) (ints_wk _ _)
    have gk : ∀ L : List AObj, (H ++ L)[H.length + 1]? = L[1]? := fun L => hp_getk H L 1
    have sk : ∀ (L : List AObj) (x : AObj), (H ++ L).set (H.length + 1) x = H ++ L.set 1 x := fun L x => hp_setk H L 1 x
    rw [hd, brkF] at hb
    cases hq : ruleF u a rs[i] with
    | false =>
      rw [hq, sel_false] at hb
      have ih := dpi hU hu hr0 hr ha ho hk n (i + 1) (by omega) hb
      simp only [kv_cons, kv_nil] at ih
      rw [go_head M l_docs_places_0.eq_1]
      simp (maxSteps := 3000000) (maxDischargeDepth := 6) +contextual -implicitDefEqProofs only [amC M, ↓amD, Nat.reduceBEq, Nat.reduceAdd, env, fargs, q_docs_places, amG, AV.cell, Nat.reduceMul, Nat.reduceLeDiff, hi, hx, hf, hq, hwi, hir, qRul, ih, w1, w2, w3, gk, sk, cut_tok, take_tok, List.getElem?_cons_succ, List.set_cons_succ]
    | true =>
      rw [hq, sel_true] at hb
      have h1 := fun X => hk X
      rw [← hb] at h1
      cases hz : rs[i].brk with
      | true =>
        rw [hz, sel_true] at h1
        have ap := fun L => ap_ownL (row := intRow) (l := o) (x := (a : Int)) (r := [.int .i64 (a : Int)]) (sz := 1) (bytes := 8) (e := t_int) H L rfl rfl rfl (by omega) (by omega)
        simp only [kv_cons, kv_nil] at h1
        rw [go_head M l_docs_places_0.eq_1]
        simp (maxSteps := 3000000) (maxDischargeDepth := 6) +contextual -implicitDefEqProofs only [amC M, ↓amD, Nat.reduceBEq, Nat.reduceAdd, env, fargs, q_docs_places, amG, AV.cell, Nat.reduceMul, Nat.reduceLeDiff, hi, hx, hf, hq, hz, hwi, hir, qRul, ap, h1, gk, sk, List.getElem?_cons_succ, List.set_cons_succ]
      | false =>
        rw [hz, sel_false, List.append_nil] at h1
        simp only [kv_cons, kv_nil] at h1
        rw [go_head M l_docs_places_0.eq_1]
        simp (maxSteps := 3000000) (maxDischargeDepth := 6) +contextual -implicitDefEqProofs only [amC M, ↓amD, Nat.reduceBEq, Nat.reduceAdd, env, fargs, q_docs_places, amG, AV.cell, Nat.reduceMul, Nat.reduceLeDiff, hi, hx, hf, hq, hz, hwi, hir, qRul, h1, gk, sk, List.getElem?_cons_succ, List.set_cons_succ]
theorem dpo (hU : BrkE E) {rs : List Brk} {u : List Un} (hu : u.length ≤ 1000000) (hr0 : rs.length ≤ maxL) (hr : ∀ r ∈ rs, r.bef.length ≤ 1000000 ∧ r.aft.length ≤ 1000000) {H H0 : List AObj} (k : List Fra) :
    ∀ (n a : Nat) (o : List Int), u.length - a = n → o.length ≤ a →
    M.go a_docs_places H0 (.c l_docs_places_1 :: .lp ⟨(some [0, 5, 6, 7]), [(6, 1, t_int)], true⟩ l_docs_places_1 (H ++ [.tok (o.length * 1) t_int]) :: .blk 0 :: .c (.lv [6]) :: k) (kv [(0, .slice .any 3 (rs.map rulRow)), (5, .slice .any 2 (u.map Un.row)), (6, .slice (.own H.length) 1 (o.map intRow)), (7, .int .i64 a)]) (H ++ [.tok (o.length * 1) t_int]) =
      M.go a_docs_places H0 k (kv [(6, .slice (.own H.length) 1 ((o ++ plcF u rs n a).map intRow))]) (H ++ [.tok ((o ++ plcF u rs n a).length * 1) t_int])
  | 0, a, o, h, ho => by
    have e : ¬ a < u.length := by omega
    rw [go_head M l_docs_places_1.eq_1]
    simp (maxSteps := 3000000) (maxDischargeDepth := 6) +contextual -implicitDefEqProofs only [amC M, ↓amD, Nat.reduceBEq, Nat.reduceAdd, env, fargs, q_docs_places, e, plcF, List.append_nil]
  | n + 1, a, o, h, ho => by
    have hi : a < u.length := by omega
    have hw := wrap_s (n := u.length) hi (by simp only [maxL]; omega)
    have w1 : Wk (H.length + 1) (.slice .any 3 (rs.map rulRow)) (.slice .any 3 (rs.map rulRow)) := wk_slice trivial (rul_wk _ _)
    have w2 : Wk (H.length + 1) (.slice .any 2 (u.map Un.row)) (.slice .any 2 (u.map Un.row)) := wk_slice trivial (un_wk _ _)
    have w3 : ∀ o : List Int, Wk (H.length + 1) (.slice (.own H.length) 1 (o.map intRow)) (.slice (.own H.length) 1 (o.map intRow)) := fun o => wk_slice (by simp [tagLt]) (ints_wk _ _)
    have hol : (sel (brkF u a rs) [(a : Int)] []).length ≤ 1 := by cases brkF u a rs <;> simp [sel_true, sel_false]
    have ih := dpo hU hu hr0 hr (H := H) (H0 := H0) k n (a + 1) (o ++ sel (brkF u a rs) [(a : Int)] []) (by omega) (by simp; omega)
    simp only [kv_cons, kv_nil] at ih
    rw [plcF, ← List.append_assoc]
    generalize hoo : o ++ sel (brkF u a rs) [(a : Int)] [] = oo at ih ⊢
    rw [go_head M l_docs_places_1.eq_1]
    simp (maxSteps := 3000000) (maxDischargeDepth := 6) +contextual -implicitDefEqProofs only [amC M, ↓amD, Nat.reduceBEq, Nat.reduceAdd, env, fargs, q_docs_places, hi]
    have hz := fun k R hk => dpi M hU hu hr0 hr (H := H) (H0 := H0) (a := a) (by omega) (o := o) (by omega) (k := k) (R := R) hk rs.length 0 (by omega) (by rw [List.drop_zero])
    simp only [kv_cons, kv_nil, Int.ofNat_zero, hoo] at hz
    refine hz _ _ fun X => ?_
    simp (maxSteps := 3000000) (maxDischargeDepth := 6) +contextual -implicitDefEqProofs only [amC M, ↓amD, Nat.reduceBEq, Nat.reduceAdd, env, fargs, q_docs_places, hw, ih, w1, w2, w3, cut_tok, take_tok]
theorem run_places (hB : BasE E) (hU : BrkE E) (hN : UntE E) {rs : List Brk} (hr0 : rs.length ≤ maxL) (hr : ∀ r ∈ rs, r.bef.length ≤ 1000000 ∧ r.aft.length ≤ 1000000) {l : Sl Piece} (hl : l.l.length ≤ 100000) (hu : (unL l.l).length ≤ 1000000) (H : List AObj) :
    M.run f_docs_places [.slice .any 3 (rs.map rulRow), .slice l.tag 3 (l.l.map Piece.row)] H = some (.ret (.slice .any 1 ((plcL rs l.l).map intRow)), H) := by
  rw [run_c M hU.docs_places rfl (c := c_docs_places) rfl, c_docs_places]
  have h2 := fun H => run_dunits M hU (l := l.l) (t := l.tag) H
  have h3 := run_Collect M hU hN (l := l.l) (t := l.tag) (H := H ++ [.cells [.slice l.tag 3 (l.l.map Piece.row)] t_sl_api_Piece]) (id := H.length) (by omega) hu (hp_get0 _ _)
  have h4 := fun k => dpo M hU (rs := rs) (u := unL l.l) hu hr0 hr (H := H ++ [.cells [.slice l.tag 3 (l.l.map Piece.row)] t_sl_api_Piece]) (H0 := H) k ((unL l.l).length - 1) 1 [] rfl (by simp)
  simp only [kv_cons, kv_nil, List.nil_append, List.length_nil, Nat.zero_mul, List.map_nil, show ((1 : Nat) : Int) = 1 from rfl, List.length_append, List.length_cons, List.append_assoc, List.cons_append, Nat.zero_add] at h4
  have hh := handV_drop (cut_app H [.cells [.slice l.tag 3 (l.l.map Piece.row)] t_sl_api_Piece, .tok ((plcL rs l.l).length * 1) t_int]) (wk_any (esz := 1) (tag := .own (H.length + 1)) (ints_wk H.length (plcL rs l.l)))
  simp only [anyV_slice, hp_take, plcL] at hh
  simp (maxSteps := 3000000) (maxDischargeDepth := 6) +contextual -implicitDefEqProofs only [amC M, ↓amD, Nat.reduceBEq, Nat.reduceAdd, env, fargs, q_docs_places, h2, h3, h4, hh, plcL]
theorem run_dBreaks (hB : BasE E) (hX : ExtD M) (hU : BrkE E) (hN : UntE E) {rs : Sl Brk} {m0 : Nat} (hrs : rs.ok m0 (Brk.ok m0)) (hr0 : rs.l.length ≤ 1000) (hr : rs.l.length ≤ 64 → ∀ r ∈ rs.l, r.bef.length ≤ 1000000 ∧ r.aft.length ≤ 1000000) {l : Sl Piece} (hl : l.l.length ≤ 100000) (ht : TxtOk l.l) (hu : (unL l.l).length ≤ 1000000) (H : List AObj) (hm0 : m0 ≤ H.length := by exact Nat.zero_le _) :
    M.run f_docs_Breaks [.slice rs.tag 3 (rs.l.map Brk.row), .slice l.tag 3 (l.l.map Piece.row)] H = some (.ret (breaksV rs.l l.l), H) := by
  rw [run_c M hU.docs_Breaks rfl (c := c_docs_Breaks) rfl, c_docs_Breaks]
  have h1 := run_compiled M hB hX hU hrs hr0 hr H hm0
  have h2 := fun H => run_CheckPieces M hB hX (l := l) (by omega) ht H
  have h3 := fun (hr : ∀ r ∈ rs.l, r.bef.length ≤ 1000000 ∧ r.aft.length ≤ 1000000) H => run_places M hB hU hN (rs := rs.l) (by simp only [maxL]; omega) hr (l := l) hl hu H
  unfold cmpV at h1
  cases c1 : checkB rs.l == 0 with
  | false =>
    simp only [c1, sel_false] at h1
    simp (maxSteps := 3000000) (maxDischargeDepth := 6) +contextual -implicitDefEqProofs only [amC M, ↓amD, Nat.reduceBEq, Nat.reduceAdd, env, fargs, q_docs_Breaks, h1, c1, breaksV, aextract, List.getElem?_cons_succ, rowsWk_nil, wk_tuple, hp_self, cut_refl]
  | true =>
    simp only [c1, sel_true] at h1
    cases c2 : checkP l.l == 0 with
    | false => simp (maxSteps := 3000000) (maxDischargeDepth := 6) +contextual -implicitDefEqProofs only [amC M, ↓amD, Nat.reduceBEq, Nat.reduceAdd, env, fargs, q_docs_Breaks, h1, h2, c1, c2, breaksV, aextract, List.getElem?_cons_succ, rowsWk_nil, wk_tuple, hp_self, cut_refl, (show ((0 : Int) == 0) = true from rfl)]
    | true =>
      have h3 := h3 (hr (checkB_len c1))
      have hh := handV_drop (cut_refl H) (wk_tuple (xs := [.slice .any 1 ((plcL rs.l l.l).map intRow), .int .u8 0]) ⟨wk_any (esz := 1) (tag := .any) (ints_wk H.length (plcL rs.l l.l)), wk_int _ _ 0, trivial⟩)
      simp only [anyV_tuple, hp_self] at hh
      simp (maxSteps := 3000000) (maxDischargeDepth := 6) +contextual -implicitDefEqProofs only [amC M, ↓amD, Nat.reduceBEq, Nat.reduceAdd, env, fargs, q_docs_Breaks, h1, h2, h3, c1, c2, breaksV, hh, aextract, List.getElem?_cons_succ, (show ((0 : Int) == 0) = true from rfl)]
      try rfl
end Go.Am
end

section
set_option linter.unusedSimpArgs false
set_option linter.unusedVariables false
set_option maxRecDepth 100000
set_option maxHeartbeats 4000000
namespace Go.Am
open Go.RowKit
attribute [local congr] dsel_congr sel_c1 slc_cong gsel_congr go_congr aft_congr aftD_congr condR_congr backR_congr inR_congr at2_congr
variable {E : REnv} (M : Mach cdec E)

/-! How much is asked: long, strict -/
def plRow (p : Sl Piece) : List AV := [.slice p.tag 3 (p.l.map Piece.row)]
theorem qPl : (∀ p : Sl Piece, rload none (plRow p) 0 = some (.slice p.tag 3 (p.l.map Piece.row))) ∧ (∀ p : Sl Piece, takeO 1 (plRow p) = some (plRow p)) ∧ (∀ p : Sl Piece, (plRow p).length = 1) := ⟨fun _ => rfl, fun _ => rfl, fun _ => rfl⟩
def lngP (n : Nat) : List Piece → Nat
  | [] => n
  | x :: l => if n < 5000 then lngP (n + x.text.length) l else n
def lngL (n : Nat) : List (Sl Piece) → Nat
  | [] => n
  | p :: ps => lngL (lngP (n + p.l.length) p.l) ps
def longF (ps : List (Sl Piece)) : Bool := decide (2500 < lngL 0 ps)
theorem lngP_ge : ∀ (l : List Piece) (n : Nat), 5000 ≤ n → lngP n l = n
  | [], n, _ => rfl
  | x :: l, n, h => by rw [lngP, if_neg (by omega)]
theorem lngP_le : ∀ (l : List Piece) (n : Nat), (∀ x ∈ l, x.text.length ≤ maxL) → n < 5000 → lngP n l ≤ maxL + 5000
  | [], n, _, hn => by rw [lngP]; simp only [maxL]; omega
  | x :: l, n, h, hn => by
    rw [lngP, if_pos hn]
    have h1 := h x List.mem_cons_self
    by_cases h2 : n + x.text.length < 5000
    · exact lngP_le l (n + x.text.length) (fun y hy => h y (List.mem_cons_of_mem _ hy)) h2
    · rw [lngP_ge l _ (by omega)]; omega
theorem lngP_le2 (l : List Piece) (n : Nat) (h : ∀ x ∈ l, x.text.length ≤ maxL) : lngP n l ≤ n + maxL + 5000 := by
  by_cases hn : n < 5000
  · have := lngP_le l n h hn; omega
  · rw [lngP_ge l n (by omega)]; omega
theorem lngP_mono : ∀ (l : List Piece) (n : Nat), n ≤ lngP n l
  | [], n => Nat.le_refl _
  | x :: l, n => by
    rw [lngP]; split
    · have := lngP_mono l (n + x.text.length); omega
    · exact Nat.le_refl _
theorem lngL_mono : ∀ (ps : List (Sl Piece)) (n : Nat), n ≤ lngL n ps
  | [], n => Nat.le_refl _
  | p :: ps, n => by
    rw [lngL]
    have h1 := lngP_mono p.l (n + p.l.length)
    have h2 := lngL_mono ps (lngP (n + p.l.length) p.l)
    omega
def txtN (l : List Piece) : Nat := (l.map fun x => x.text.length).sum
theorem lngP_eq : ∀ (l : List Piece) (n : Nat), lngP n l ≤ 2500 → lngP n l = n + txtN l
  | [], n, _ => by simp [lngP, txtN]
  | x :: l, n, h => by
    have h0 : n < 5000 := by have := lngP_mono (x :: l) n; omega
    rw [lngP, if_pos h0] at h ⊢
    rw [lngP_eq l _ h, txtN, txtN, List.map_cons, List.sum_cons]; omega
def allN (ps : List (Sl Piece)) : Nat := (ps.map fun p => p.l.length + txtN p.l).sum
theorem lngL_eq : ∀ (ps : List (Sl Piece)) (n : Nat), lngL n ps ≤ 2500 → lngL n ps = n + allN ps
  | [], n, _ => by simp [lngL, allN]
  | p :: ps, n, h => by
    rw [lngL] at h ⊢
    have h0 := lngL_mono ps (lngP (n + p.l.length) p.l)
    rw [lngL_eq ps _ h, lngP_eq p.l _ (by omega), allN, allN, List.map_cons, List.sum_cons]; omega
theorem longF_one {p : Sl Piece} (h : longF [p] = false) : p.l.length + txtN p.l ≤ 2500 := by
  have h1 : lngL 0 [p] ≤ 2500 := by have := of_decide_eq_false h; omega
  have h2 := lngL_eq [p] 0 h1
  simp only [allN, List.map_cons, List.map_nil, List.sum_cons, List.sum_nil] at h2
  omega
theorem txtN_mem {l : List Piece} {x : Piece} (h : x ∈ l) : x.text.length ≤ txtN l := by
  induction l with
  | nil => cases h
  | cons y l ih =>
    rw [txtN, List.map_cons, List.sum_cons]
    rcases List.mem_cons.1 h with rfl | h
    · omega
    · have := ih h; unfold txtN at this; omega
theorem unL_len : ∀ l : List Piece, (unL l).length ≤ l.length + txtN l
  | [] => by simp [unL]
  | x :: l => by
    show (unP x ++ unL l).length ≤ _
    have h1 := unP_len x
    have h2 := unL_len l
    rw [List.length_append, txtN, List.map_cons, List.sum_cons, List.length_cons]
    unfold txtN at h2; omega
theorem plainF_len : ∀ l : List Piece, (plainF l).length ≤ txtN l
  | [] => by simp [plainF]
  | x :: l => by
    have h2 := plainF_len l
    rw [plainF, List.length_append, txtN, List.map_cons, List.sum_cons]
    unfold txtN at h2
    cases x.kind == 1
    · rw [sel_false, List.length_nil]; omega
    · rw [sel_true]; omega
theorem lgi {H H0 : List AObj} {ps : List (Sl Piece)} {tg : Tag} {j : Nat} {p : Sl Piece} (hp : ps[j]? = some p) (hj : j < ps.length) (hpl : p.l.length ≤ maxL) (hpt : ∀ x ∈ p.l, x.text.length ≤ maxL) (hc : CutOk H0 H) (k : List Fra) : ∀ (n i : Nat) (n2 : Nat) (hn : n2 ≤ 1000000000000000000) (He : List AObj), i + n = (p.l).length →
    M.go a_truchmanlaw01_long H0 (.c l_truchmanlaw01_long_0 :: .lp ⟨(some [0, 3, 4, 5]), [], false⟩ l_truchmanlaw01_long_0 He :: .blk 2 :: .c (.lv [0, 3, 4]) :: k) (kv [(0, .slice tg 1 (ps.map plRow)), (3, .int .i64 n2), (4, .int .i64 j), (5, .int .i64 i)]) H =
      (M.go a_truchmanlaw01_long H0 k (kv [(0, .slice tg 1 (ps.map plRow)), (3, .int .i64 (lngP n2 (p.l.drop i) : Nat)), (4, .int .i64 j)]) (H))
  | 0, i, n2, hn, He, h => by
    have e : i = (p.l).length := by omega
    subst e
    rw [go_head M l_truchmanlaw01_long_0.eq_1]
    simp (maxSteps := 3000000) (maxDischargeDepth := 6) +contextual -implicitDefEqProofs only [amC M, ↓amD, Nat.reduceBEq, Nat.reduceAdd, env, fargs, q_truchmanlaw01_long, Nat.lt_irrefl, List.drop_length, hp, hpl, qPl, ias_row hj, lngP]
  | n + 1, i, n2, hn, He, h => by
    have hi : i < (p.l).length := by omega
    have hx : (p.l)[i]? = some (p.l)[i] := List.getElem?_eq_getElem hi
    have hd : ((p.l).drop i) = (p.l)[i] :: (p.l).drop (i + 1) := List.drop_eq_getElem_cons hi
    have hm : (p.l)[i] ∈ (p.l) := List.getElem_mem hi
    have ih := fun n2 hn He => lgi (H := H) (H0 := H0) (ps := ps) (tg := tg) (j := j) (p := p) (hp := hp) (hj := hj) (hpl := hpl) (hpt := hpt) hc k n (i + 1) n2 hn He (by omega)
    simp only [kv_cons, kv_nil] at ih
    have hij := ias_row (row := plRow) (tag := tg) (sz := 1) (k := .i64) hj
    have hir := ias_row (row := Piece.row) (tag := p.tag) (sz := 3) (k := .i64) hi
    have hwi := wrap_s (n := p.l.length) hi hpl
    have hmt := hpt _ hm
    by_cases h5 : n2 < 5000
    · have d5 : decide ((n2 : Int) < 5000) = true := decide_eq_true (by omega)
      have hw2 : IntKind.i64.wrap ((n2 : Int) + (p.l[i].text.length : Int)) = ((n2 + p.l[i].text.length : Nat) : Int) := by rw [wrap_i64 (by omega) (by simp only [maxL] at hmt; omega)]; omega
      have ih := ih (n2 + p.l[i].text.length) (by simp only [maxL] at hmt; omega)
      rw [hd, lngP, if_pos h5]
      rw [go_head M l_truchmanlaw01_long_0.eq_1]
      simp (maxSteps := 3000000) (maxDischargeDepth := 6) +contextual -implicitDefEqProofs only [amC M, ↓amD, Nat.reduceBEq, Nat.reduceAdd, env, fargs, q_truchmanlaw01_long, hi, hx, hp, hd, d5, ih, hij, hir, hwi, hw2, qPl, qPiece]
    · have d5 : decide ((n2 : Int) < 5000) = false := decide_eq_false (by omega)
      rw [lngP_ge _ _ (by omega)]
      rw [go_head M l_truchmanlaw01_long_0.eq_1]
      simp (maxSteps := 3000000) (maxDischargeDepth := 6) +contextual -implicitDefEqProofs only [amC M, ↓amD, Nat.reduceBEq, Nat.reduceAdd, env, fargs, q_truchmanlaw01_long, hi, hx, hp, hd, d5, hij, hir, qPl, qPiece]
theorem lgo {H H0 : List AObj} {ps : List (Sl Piece)} {tg : Tag} (hps : ps.length ≤ 100) (hpl : ∀ p ∈ ps, p.l.length ≤ maxL ∧ ∀ x ∈ p.l, x.text.length ≤ maxL) (hc : CutOk H0 H) (k : List Fra) : ∀ (n i : Nat) (n2 : Nat) (hn : n2 ≤ i * 300000000000000) (He : List AObj), i + n = ps.length →
    M.go a_truchmanlaw01_long H0 (.c l_truchmanlaw01_long_1 :: .lp ⟨(some [0, 3, 4]), [], false⟩ l_truchmanlaw01_long_1 He :: .blk 0 :: .c (.lv [3]) :: k) (kv [(0, .slice tg 1 (ps.map plRow)), (3, .int .i64 n2), (4, .int .i64 i)]) H =
      (M.go a_truchmanlaw01_long H0 k (kv [(3, .int .i64 (lngL n2 (ps.drop i) : Nat))]) (H))
  | 0, i, n2, hn, He, h => by
    have e : i = ps.length := by omega
    subst e
    rw [go_head M l_truchmanlaw01_long_1.eq_1]
    simp (maxSteps := 3000000) (maxDischargeDepth := 6) +contextual -implicitDefEqProofs only [amC M, ↓amD, Nat.reduceBEq, Nat.reduceAdd, env, fargs, q_truchmanlaw01_long, Nat.lt_irrefl, List.drop_length, lngL]
  | n + 1, i, n2, hn, He, h => by
    have hi : i < ps.length := by omega
    have hx : ps[i]? = some ps[i] := List.getElem?_eq_getElem hi
    have hd : (ps.drop i) = ps[i] :: ps.drop (i + 1) := List.drop_eq_getElem_cons hi
    have hm : ps[i] ∈ ps := List.getElem_mem hi
    have ih := fun n2 hn He => lgo (H := H) (H0 := H0) (ps := ps) (tg := tg) (hps := hps) (hpl := hpl) hc k n (i + 1) n2 hn He (by omega)
    simp only [kv_cons, kv_nil] at ih
    have hij := ias_row (row := plRow) (tag := tg) (sz := 1) (k := .i64) hi
    have hwi := wrap_s (n := ps.length) hi (by simp only [maxL]; omega)
    have hq := hpl _ hm
    have hq1 : ps[i].l.length ≤ 140737488351232 := hq.1
    have hw2 : IntKind.i64.wrap ((n2 : Int) + (ps[i].l.length : Int)) = ((n2 + ps[i].l.length : Nat) : Int) := by rw [wrap_i64 (by omega) (by omega)]; omega
    have hb := lngP_le2 ps[i].l (n2 + ps[i].l.length) hq.2
    have hz := fun k He => lgi M (H := H) (H0 := H0) (ps := ps) (tg := tg) (j := i) (p := ps[i]) hx hi hq.1 hq.2 hc k ps[i].l.length 0 (n2 + ps[i].l.length) (by omega) He (by omega)
    have ih := ih (lngP (n2 + ps[i].l.length) ps[i].l) (by simp only [maxL] at hb; omega)
    simp only [kv_cons, kv_nil, Int.ofNat_zero, List.drop_zero] at hz
    rw [hd, lngL]
    rw [go_head M l_truchmanlaw01_long_1.eq_1]
    simp (maxSteps := 3000000) (maxDischargeDepth := 6) +contextual -implicitDefEqProofs only [amC M, ↓amD, Nat.reduceBEq, Nat.reduceAdd, env, fargs, q_truchmanlaw01_long, hi, hx, ih, hz, hij, hwi, hw2, qPl, List.length_map]
theorem run_long (hB : BasE E) {ps : List (Sl Piece)} {tg : Tag} (hps : ps.length ≤ 100) (hpl : ∀ p ∈ ps, p.l.length ≤ maxL ∧ ∀ x ∈ p.l, x.text.length ≤ maxL) (H : List AObj) :
    M.run f_truchmanlaw01_long [.slice tg 1 (ps.map plRow)] H = some (.ret (.bool (longF ps)), H) := by
  rw [run_c M hB.truchmanlaw01_long rfl (c := c_truchmanlaw01_long) rfl, c_truchmanlaw01_long]
  have h1 := fun k He => lgo M (tg := tg) hps hpl (cut_refl H) k ps.length 0 0 (by omega) He (by omega)
  simp only [kv_cons, kv_nil, Int.ofNat_zero, List.drop_zero] at h1
  have h2 : decide ((2500 : Int) < (lngL 0 ps : Int)) = decide (2500 < lngL 0 ps) := by rw [Bool.eq_iff_iff]; simp; omega
  simp (maxSteps := 3000000) (maxDischargeDepth := 6) +contextual -implicitDefEqProofs only [amC M, ↓amD, Nat.reduceBEq, Nat.reduceAdd, env, fargs, q_truchmanlaw01_long, h1, h2, longF]
theorem run_long1 (hB : BasE E) {l : Sl Piece} (h : l.ok 0 (Piece.ok 0)) (H : List AObj) : M.run f_truchmanlaw01_long [.slice .full 1 [[.slice l.tag.strip 3 (l.l.map Piece.row)]]] H = some (.ret (.bool (longF [l])), H) :=
  run_long M hB (tg := .full) (ps := [⟨l.tag.strip, l.l⟩]) (by simp) (fun p hp => by
    rw [List.mem_singleton] at hp; subst hp
    exact ⟨h.len, fun x hx => (h.all x hx).text⟩) H
def brkN (n : Nat) (x : Brk) : Nat := n + x.bef.length + x.aft.length
def strictF (rs : List Brk) : Bool := decide (600 < (rs.take 100).foldl brkN rs.length)
theorem take_get2 {α : Type} (l : List α) (n : Nat) : ∀ k, k < (l.take n).length → l[k]? = (l.take n)[k]? := fun k hk => by
  rw [List.getElem?_take, if_pos (by rw [List.length_take] at hk; omega)]
theorem st_and0 {n m : Nat} (h : m = min 100 n) : (decide (m < n) && decide ((m : Int) < 100)) = false := by
  rw [Bool.eq_false_iff]; simp; omega
theorem stl {H H0 : List AObj} {b Lf : List Brk} {tg : Tag} (hM : Lf.length = min 100 b.length) (hL : ∀ k, k < Lf.length → b[k]? = Lf[k]?) (hb : ∀ x ∈ b, x.bef.length ≤ maxL ∧ x.aft.length ≤ maxL) (hc : CutOk H0 H) (k : List Fra) : ∀ (n i : Nat) (n2 : Nat) (hn : n2 ≤ 140737488351232 + i * 300000000000000) (He : List AObj), i + n = Lf.length →
    M.go a_truchmanlaw01_strict H0 (.c l_truchmanlaw01_strict_0 :: .lp ⟨(some [0, 3, 4]), [], false⟩ l_truchmanlaw01_strict_0 He :: .blk 0 :: .c (.lv [3]) :: k) (kv [(0, .slice tg 3 (b.map Brk.row)), (3, .int .i64 n2), (4, .int .i64 i)]) H =
      (M.go a_truchmanlaw01_strict H0 k (kv [(3, .int .i64 ((Lf.drop i).foldl brkN n2 : Nat))]) (H))
  | 0, i, n2, hn, He, h => by
    have e : i = Lf.length := by omega
    subst e
    rw [go_head M l_truchmanlaw01_strict_0.eq_1]
    simp (maxSteps := 3000000) (maxDischargeDepth := 6) +contextual -implicitDefEqProofs only [amC M, ↓amD, Nat.reduceBEq, Nat.reduceAdd, env, fargs, q_truchmanlaw01_strict, Nat.lt_irrefl, List.drop_length, st_and0 hM, List.foldl_nil]
  | n + 1, i, n2, hn, He, h => by
    have hi : i < Lf.length := by omega
    have hx : Lf[i]? = some Lf[i] := List.getElem?_eq_getElem hi
    have hd : (Lf.drop i) = Lf[i] :: Lf.drop (i + 1) := List.drop_eq_getElem_cons hi
    have hm : Lf[i] ∈ Lf := List.getElem_mem hi
    have ih := fun n2 hn He => stl (H := H) (H0 := H0) (b := b) (Lf := Lf) (tg := tg) (hM := hM) (hL := hL) (hb := hb) hc k n (i + 1) n2 hn He (by omega)
    simp only [kv_cons, kv_nil] at ih
    have hib : i < b.length := by omega
    have hxb := (hL i hi).trans hx
    have hq := hb Lf[i] (List.mem_of_getElem? hxb)
    have hq1 : Lf[i].bef.length ≤ 140737488351232 := hq.1
    have hq2 : Lf[i].aft.length ≤ 140737488351232 := hq.2
    have hlt : decide ((i : Int) < 100) = true := decide_eq_true (by omega)
    have hw1 : IntKind.i64.wrap ((n2 : Int) + (Lf[i].bef.length : Int)) = ((n2 + Lf[i].bef.length : Nat) : Int) := by rw [wrap_i64 (by omega) (by omega)]; omega
    have hw2 : IntKind.i64.wrap (((n2 + Lf[i].bef.length : Nat) : Int) + (Lf[i].aft.length : Int)) = ((brkN n2 Lf[i] : Nat) : Int) := by rw [wrap_i64 (by omega) (by omega), brkN]; omega
    have ih := ih (brkN n2 Lf[i]) (by unfold brkN; omega)
    rw [hd, List.foldl_cons]
    rw [go_head M l_truchmanlaw01_strict_0.eq_1]
    simp (maxSteps := 3000000) (maxDischargeDepth := 6) +contextual -implicitDefEqProofs only [amC M, ↓amD, Nat.reduceBEq, Nat.reduceAdd, env, fargs, q_truchmanlaw01_strict, hib, hxb, ih, hlt, ias_row hib, qBrk, wrap_s (n := 100) (show i < 100 by omega) (by simp [maxL]), hw1, hw2]
theorem run_strict (hU : BrkE E) {rs : Sl Brk} (h : rs.ok 0 (Brk.ok 0)) (H : List AObj) : M.run f_truchmanlaw01_strict [.slice rs.tag 3 (rs.l.map Brk.row)] H = some (.ret (.bool (strictF rs.l)), H) := by
  rw [run_c M hU.truchmanlaw01_strict rfl (c := c_truchmanlaw01_strict) rfl, c_truchmanlaw01_strict]
  have hl : rs.l.length ≤ 140737488351232 := h.len
  have h1 := fun k He => stl M (b := rs.l) (Lf := rs.l.take 100) (tg := rs.tag) (by simp) (take_get2 rs.l 100) (fun x hx => ⟨(h.all x hx).bef, (h.all x hx).aft⟩) (cut_refl H) k (rs.l.take 100).length 0 rs.l.length (by omega) He (by omega)
  simp only [kv_cons, kv_nil, Int.ofNat_zero, List.drop_zero] at h1
  have h2 : decide ((600 : Int) < (((rs.l.take 100).foldl brkN rs.l.length : Nat) : Int)) = strictF rs.l := by rw [strictF, Bool.eq_iff_iff]; simp; omega
  simp (maxSteps := 3000000) (maxDischargeDepth := 6) +contextual -implicitDefEqProofs only [amC M, ↓amD, Nat.reduceBEq, Nat.reduceAdd, env, fargs, q_truchmanlaw01_strict, h1, h2, List.length_map]
theorem brkN_ge : ∀ (l : List Brk) (n : Nat), n ≤ l.foldl brkN n ∧ ∀ x ∈ l, x.bef.length + x.aft.length ≤ l.foldl brkN n
  | [], n => ⟨Nat.le_refl _, fun x h => by cases h⟩
  | y :: l, n => by
    obtain ⟨h1, h2⟩ := brkN_ge l (brkN n y)
    rw [List.foldl_cons]
    refine ⟨by unfold brkN at h1 ⊢; omega, fun x hx => ?_⟩
    rcases List.mem_cons.1 hx with rfl | hx
    · unfold brkN at h1 ⊢; omega
    · exact h2 x hx
theorem strictF_small {rs : List Brk} (h : strictF rs = false) : rs.length ≤ 600 ∧ ∀ (i : Nat) (x : Brk), i < 100 → rs[i]? = some x → x.bef.length ≤ 600 ∧ x.aft.length ≤ 600 := by
  have h0 : (rs.take 100).foldl brkN rs.length ≤ 600 := by have := of_decide_eq_false h; omega
  obtain ⟨h1, h2⟩ := brkN_ge (rs.take 100) rs.length
  refine ⟨by omega, fun i x hi hx => ?_⟩
  have hm : x ∈ rs.take 100 := List.mem_of_getElem? (i := i) (by rw [List.getElem?_take, if_pos hi]; exact hx)
  have := h2 x hm
  omega
theorem strictF_hr {rs : List Brk} (h : strictF rs = false) : rs.length ≤ 64 → ∀ r ∈ rs, r.bef.length ≤ 1000000 ∧ r.aft.length ≤ 1000000 := fun h64 r hr => by
  obtain ⟨i, hi⟩ := List.getElem?_of_mem hr
  have hlt := (List.getElem?_eq_some_iff.1 hi).1
  have := (strictF_small h).2 i r (by omega) hi
  omega
end Go.Am
end

section
set_option linter.unusedSimpArgs false
set_option linter.unusedVariables false
set_option maxRecDepth 100000
set_option maxHeartbeats 4000000
namespace Go.Am
open Go.RowKit
attribute [local congr] dsel_congr sel_c1 slc_cong gsel_congr go_congr aft_congr aftD_congr condR_congr backR_congr inR_congr at2_congr
variable {E : REnv} (M : Mach cdec E)

/-! DocsBreaks -/
theorem plcF_len (u : List Un) (rs : List Brk) : ∀ n a, (plcF u rs n a).length ≤ n
  | 0, a => Nat.le_refl _
  | n + 1, a => by
    have := plcF_len u rs n (a + 1)
    rw [plcF, List.length_append]
    cases brkF u a rs
    · rw [sel_false, List.length_nil]; omega
    · rw [sel_true, List.length_singleton]; omega
end Go.Am
end

section
set_option linter.unusedSimpArgs false
set_option linter.unusedVariables false
set_option maxRecDepth 100000
set_option maxHeartbeats 4000000
namespace Go.Am
open Go.RowKit
attribute [local congr] dsel_congr sel_c1 slc_cong gsel_congr go_congr aft_congr aftD_congr condR_congr backR_congr inR_congr at2_congr
variable {E : REnv} (M : Mach cdec E)

/-! DocsFits -/
theorem decN_hi {n b0 b1 b2 b3 : Nat} (h : 128 ≤ b0) : 128 ≤ (Lib.decodeN n b0 b1 b2 b3).1 := by
  unfold Lib.decodeN
  repeat' split
  all_goals (first | (dsimp only; omega) | omega)
theorem dec1_37 {c : UInt8} {t : Str} (h : (dec1 (c :: t)).1 = 37) : (c.toNat == 37) = true := by
  by_cases hc : c.toNat < 128
  · rw [dec1, Lib.decodeL_ascii c t hc] at h
    simpa using h
  · have h2 := Lib.decodeL_N (c :: t)
    rw [dec1, h2] at h
    have h3 := decN_hi (n := (c :: t).length) (b0 := c.toNat) (b1 := ((c :: t).getD 1 0).toNat) (b2 := ((c :: t).getD 2 0).toNat) (b3 := ((c :: t).getD 3 0).toNat) (by omega)
    have h4 : ((c :: t).getD 0 0) = c := rfl
    rw [h4] at h; omega
def pctS (s : Str) : Bool := s.any fun c => c.toNat == 37
theorem pct_drop {s : Str} (h : pctS s = false) (n : Nat) : pctS (s.drop n) = false := by
  unfold pctS at h ⊢
  rw [List.any_eq_false] at h ⊢
  exact fun x hx => h x (List.mem_of_mem_drop hx)
theorem runN_37 : ∀ (n : Nat) (s : Str), pctS s = false → ∀ r ∈ runN n s, r ≠ 37
  | 0, s, _, r, hr => by rw [runN] at hr; cases hr
  | n + 1, [], _, r, hr => by rw [runN] at hr; cases hr
  | n + 1, c :: t, h, r, hr => by
    rw [runN] at hr
    rcases List.mem_cons.1 hr with rfl | hr
    · intro e
      have := dec1_37 e
      unfold pctS at h
      rw [List.any_cons, this] at h; cases h
    · exact runN_37 n _ (pct_drop h _) r hr
def seenP (x : Piece) : Bool := (x.kind == 1) && pctS x.text
theorem unL_37 : ∀ l : List Piece, l.any seenP = false → ∀ u ∈ unL l, (u.r == 37) = false
  | [], _, u, hu => by simp [unL] at hu
  | x :: l, h, u, hu => by
    rw [List.any_cons, Bool.or_eq_false_iff] at h
    have hu' : u ∈ unP x ++ unL l := hu
    rcases List.mem_append.1 hu' with hu | hu
    · unfold unP at hu
      cases h5 : x.kind == 5 with
      | true => rw [h5, sel_true, List.mem_singleton] at hu; rw [hu]; rfl
      | false =>
        rw [h5, sel_false] at hu
        cases h1 : x.kind == 1 with
        | false => rw [h1, sel_false] at hu; cases hu
        | true =>
          rw [h1, sel_true] at hu
          obtain ⟨r, hr, rfl⟩ := List.mem_map.1 hu
          have hp : pctS x.text = false := by have := h.1; unfold seenP at this; rwa [h1, Bool.true_and] at this
          have := runN_37 _ _ hp r hr
          simp only [unR, beq_eq_false_iff_ne]
          intro e; exact this (by exact_mod_cast e)
    · exact unL_37 l h.2 u hu
def pctR : Brk := ⟨[37, 97, 37, 37, 37, 104, 37, 37], [], true⟩
def allR : Brk := ⟨[], [], true⟩
def nonR : Brk := ⟨[], [], false⟩
theorem fitD_pct : fitD pctR.bef = [⟨true, 97⟩, ⟨true, 37⟩, ⟨true, 104⟩, ⟨true, 37⟩] := by kernel_rfl
theorem fitD_nil : fitD [] = [] := by kernel_rfl
theorem patE_pct : patE pctR.bef = 0 := by decide +kernel
theorem patE_nil : patE [] = 0 := by decide +kernel
theorem one_pct {u : Un} (h : (u.r == 37) = false) : oneF ⟨true, 37⟩ u = false := by
  simp only [oneF, sel_true, (show ((37 : Int) == 97) = false from rfl), (show ((37 : Int) == 117) = false from rfl), (show ((37 : Int) == 108) = false from rfl), (show ((37 : Int) == 100) = false from rfl), (show ((37 : Int) == 115) = false from rfl), (show ((37 : Int) == 112) = false from rfl), (show ((37 : Int) == 104) = false from rfl), (show ((37 : Int) == 37) = true from rfl), sel_false, h, Bool.and_false]
theorem ruleF_pct {u : List Un} (h : ∀ x ∈ u, (x.r == 37) = false) (a : Nat) : ruleF u a pctR = false := by
  have hb : ∀ b, behF u [⟨true, 97⟩, ⟨true, 37⟩, ⟨true, 104⟩, ⟨true, 37⟩] b = false := fun b => by
    rw [behF, show edgB ⟨true, 97⟩ = false from rfl, sel_false]
    cases u[b]? with
    | none => rfl
    | some x =>
      dsimp only
      rw [behF, show edgB ⟨true, 37⟩ = false from rfl, sel_false]
      cases hy : u[b + 1]? with
      | none => simp
      | some y => dsimp only; rw [one_pct (h y (List.mem_of_getElem? hy))]; simp
  unfold ruleF
  rw [fitD_pct, hb]; simp
theorem ruleF_all {u : List Un} {a : Nat} {b : Bool} : ruleF u a ⟨[], [], b⟩ = true := by
  simp only [ruleF, fitD_nil, widF, behF]; simp
theorem plcF_cons {u : List Un} {rs : List Brk} {x : Brk} (h : ∀ a, ruleF u a x = false) : ∀ n a, plcF u (x :: rs) n a = plcF u rs n a
  | 0, a => rfl
  | n + 1, a => by rw [plcF, plcF, plcF_cons h n (a + 1), brkF, h a, sel_false]
def upF : Nat → Nat → List Int
  | 0, _ => []
  | n + 1, a => (a : Int) :: upF n (a + 1)
theorem plcF_all {u : List Un} {rs : List Brk} : ∀ n a, plcF u (allR :: rs) n a = upF n a
  | 0, a => rfl
  | n + 1, a => by rw [plcF, upF, plcF_all n (a + 1), brkF, allR, ruleF_all, sel_true, sel_true]; rfl
theorem plcF_non {u : List Un} {rs : List Brk} : ∀ n a, plcF u (nonR :: rs) n a = []
  | 0, a => rfl
  | n + 1, a => by rw [plcF, plcF_non n (a + 1), brkF, nonR, ruleF_all, sel_true, sel_false]; rfl
theorem upF_len : ∀ n a, (upF n a).length = n
  | 0, a => rfl
  | n + 1, a => by rw [upF, List.length_cons, upF_len n]
theorem upF_get : ∀ n a i, i < n → (upF n a)[i]? = some ((a + i : Nat) : Int)
  | 0, a, i, h => by omega
  | n + 1, a, 0, h => rfl
  | n + 1, a, i + 1, h => by
    rw [upF, List.getElem?_cons_succ, upF_get n (a + 1) i (by omega)]
    congr 2; omega
theorem plcF_rng {u : List Un} {rs : List Brk} : ∀ (n a : Nat) (x : Int), x ∈ plcF u rs n a → (a : Int) ≤ x ∧ x < (a + n : Nat)
  | 0, a, x, h => by cases h
  | n + 1, a, x, h => by
    rw [plcF, List.mem_append] at h
    rcases h with h | h
    · cases hb : brkF u a rs with
      | true => rw [hb, sel_true, List.mem_singleton] at h; subst h; omega
      | false => rw [hb, sel_false] at h; cases h
    · have := plcF_rng n (a + 1) x h; omega
theorem plcF_inc {u : List Un} {rs : List Brk} : ∀ (n a i : Nat) (x y : Int), (plcF u rs n a)[i]? = some x → (plcF u rs n a)[i + 1]? = some y → x < y
  | 0, a, i, x, y, h, _ => by simp [plcF] at h
  | n + 1, a, i, x, y, h, h2 => by
    rw [plcF] at h h2
    cases hb : brkF u a rs with
    | false => rw [hb, sel_false, List.nil_append] at h h2; exact plcF_inc n (a + 1) i x y h h2
    | true =>
      rw [hb, sel_true, List.singleton_append] at h h2
      cases i with
      | zero =>
        rw [List.getElem?_cons_zero] at h
        rw [List.getElem?_cons_succ] at h2
        have := plcF_rng n (a + 1) y (List.mem_of_getElem? h2)
        have : x = (a : Int) := by simpa using h.symm
        omega
      | succ i =>
        rw [List.getElem?_cons_succ] at h h2
        exact plcF_inc n (a + 1) i x y h h2
theorem checkB_cons {x : Brk} {rs : List Brk} (h1 : patE x.bef = 0) (h2 : patE x.aft = 0) (h : checkB rs = 0) (hl : rs.length < 64) : checkB (x :: rs) = 0 := by
  have hr : rulesE rs = 0 := by
    unfold checkB at h
    have d : decide ((64 : Int) < (rs.length : Int)) = false := decide_eq_false (by omega)
    rwa [d, sel_false] at h
  have d : decide ((64 : Int) < ((x :: rs).length : Int)) = false := decide_eq_false (by simp; omega)
  rw [checkB, d, sel_false, rulesE, h1, h2, hr]; rfl
theorem breaksV_ok {rs : List Brk} {l : List Piece} (h1 : checkB rs = 0) (h2 : checkP l = 0) : breaksV rs l = .tuple [.slice .any 1 ((plcL rs l).map intRow), .int .u8 0] := by
  rw [breaksV, h1, h2]; rfl
end Go.Am
end

