import Derived.Test.YthkkaomegnnieaaGreatDoorA2
import Derived.Recover
import Derived.Laws.Externs
import Derived.Lib.Bytealg
import Derived.Lib.MakeNoZero
import Derived.Lib.Builder
import Derived.Carry
/-
  Part 3 of the tool: an abstract machine over the model, proved sound, and what it says of the functions that the law reaches. Condition: none but those that each theorem names.
-/
set_option linter.unusedVariables false
set_option linter.unusedSimpArgs false
section
set_option linter.unusedSimpArgs false
namespace Go.Am
open Go.RowKit

section
variable {dec : Dec} {E : REnv}

theorem post_weaken {n n' : Nat} {fn : AFn} {H0 : List AObj} {k k' : List Fra} {r : Out} (hn : n ≤ n') (hk : ∀ x a H m, x ≠ .normal → evX dec E m fn H0 x k a H = evX dec E m fn H0 x k' a H) {x : AExit} {a : Env} {H : List AObj}
    (hx : x ≠ .normal) (h : Post dec E n fn H0 k r x a H) : Post dec E n' fn H0 k' r x a H := by
  obtain ⟨m, hm, h⟩ := h
  exact ⟨m, by omega, by rw [← hk x a H m hx]; exact h⟩

theorem evX_c {m : Nat} {fn : AFn} {H0 : List AObj} {x : AExit} {k : List Fra} {ac : AC} {a : Env} {H : List AObj} (hx : x ≠ .normal) : evX dec E m fn H0 x (.c ac :: k) a H = evX dec E m fn H0 x k a H := by
  cases x <;> first | exact absurd rfl hx | rfl

theorem evX_lp {m : Nat} {fn : AFn} {H0 : List AObj} {x : AExit} {k : List Fra} {h : LH} {ac : AC} {He : List AObj} {a : Env} {H : List AObj} (hx : x ≠ .normal) : evX dec E m fn H0 x (.lp h ac He :: k) a H = evX dec E m fn H0 x k a H := by
  cases x <;> first | exact absurd rfl hx | rfl

theorem dTry_inv {ops : Array Oper} {ros : List RO} {ac : AC} : ∀ {l : List (Cl × Bool × List Nat)}, dTry ops ros l = some ac → ∃ q s ord, (q, s, ord) ∈ l ∧ ord.length = ops.size ∧ lexE ops (clsR q s ros) ord (Array.replicate ops.size false) = true ∧
    ac = .dops s [] [] (ord.map fun k => (ros.getD k default, clsR q s ros k))
  | [], h => by cases h
  | (q, s, ord) :: l, h => by
    simp only [dTry] at h
    split at h
    · rename_i hc
      simp only [Bool.and_eq_true, beq_iff_eq] at hc
      cases h
      exact ⟨q, s, ord, by simp, hc.1, hc.2, rfl⟩
    · obtain ⟨q', s', ord', h1, h2⟩ := dTry_inv h
      exact ⟨q', s', ord', by simp [h1], h2⟩

theorem strip_seq {x y : AC} (h : ∀ l, y ≠ .lv l) : (AC.seq x y).strip = .seq x.strip y.strip := by
  cases y <;> first | exact absurd rfl (h _) | rw [AC.strip]
  all_goals intro l e; cases e

theorem awp_post {P : Program} {G : Nat → Option (List AV)} {N : Fr} {c : Code} {a : Env} {H : List AObj} {Q Q' : AExit → Env → List AObj → Prop} (h : AWP P G N c Q a H)
    (hq : ∀ x a H, Q x a H → ∃ a', (∀ K act w, Rel N K a H act w → Rel N K a' H act w) ∧ Q' x a' H) : AWP P G N c Q' a H := fun K act w hg hr =>
  wp_mono (h K act w hg hr) fun _ _ _ ⟨K', x, a', H', h1, h2, h3, h4⟩ => by
    obtain ⟨a2, h5, h6⟩ := hq _ _ _ h4
    exact ⟨K', x, a2, H', h1, h2, h5 _ _ _ h3, h6⟩

theorem claim_step {n : Nat} (hC : ∀ j, j < n → CallOk dec E j) (hE : E.Ok) (IH : ∀ j, j < n → Claim dec E j) : Claim dec E n := by
    intro fn H0 ac k a H r h N m nt c hnt hc
    cases n with
    | zero => cases h
    | succ n =>
      by_cases hlv : ∃ ax l, ac = .seq ax (.lv l)
      · obtain ⟨ax, l, rfl⟩ := hlv
        have hc' : compC E.P E.G m nt c = some ax.strip := by simpa [AC.strip] using hc
        have h1 : ev dec E n fn H0 (.c ax :: .c (.lv l) :: k) a H = some r := h
        refine awp_post ((IH n (Nat.lt_succ_self n) fn H0 ax (.c (.lv l) :: k) a H r h1 N m nt c hnt hc')) fun e a' H' hp => ?_
        by_cases he : e = .normal
        · subst he
          obtain ⟨j, hj, h2⟩ := hp
          have h2' : ev dec E j fn H0 (.c (.lv l) :: k) a' H' = some r := h2
          cases j with
          | zero => cases h2'
          | succ j => exact ⟨fkeep a' l, fun K act w hr => hr.keep l, j, by omega, h2'⟩
        · exact ⟨a', fun K act w hr => hr, post_weaken (n' := n + 1) (k' := k) (Nat.le_succ n) (fun x a H m hx => evX_c hx) he hp⟩
      have hseq : ∀ x y, ac = .seq x y → ac.strip = .seq x.strip y.strip := fun x y e => by
        rw [e]
        exact strip_seq fun l hl => hlv ⟨x, l, by rw [e, hl]⟩
      cases c with
      | skip =>
        have : ac.strip = .skip := by simpa [compC] using hc.symm
        cases ac <;> (try rw [hseq _ _ rfl] at this) <;> simp [AC.strip] at this
        exact awp_skip ⟨n, Nat.lt_succ_self n, h⟩
      | label l =>
        have : ac.strip = .skip := by simpa [compC] using hc.symm
        cases ac <;> (try rw [hseq _ _ rfl] at this) <;> simp [AC.strip] at this
        exact awp_label ⟨n, Nat.lt_succ_self n, h⟩
      | exit id =>
        have : ac.strip = .exit id := by simpa [compC] using hc.symm
        cases ac <;> (try rw [hseq _ _ rfl] at this) <;> simp [AC.strip] at this
        subst this
        exact awp_exit ⟨n, Nat.lt_succ_self n, h⟩
      | refuse s =>
        have : ac.strip = .bad := by simpa [compC] using hc.symm
        cases ac <;> (try rw [hseq _ _ rfl] at this) <;> simp [AC.strip] at this
        cases h
      | ret =>
        have : ac.strip = .ret := by simpa [compC] using hc.symm
        cases ac <;> (try rw [hseq _ _ rfl] at this) <;> simp [AC.strip] at this
        exact awp_ret ⟨n, Nat.lt_succ_self n, h⟩
      | seq x y =>
        simp only [compC] at hc
        split at hc
        · rename_i x' hx
          split at hc
          · rename_i y' hy
            simp only [Option.some.injEq] at hc
            cases ac <;> (try rw [hseq _ _ rfl] at hc) <;> simp [AC.strip] at hc
            rename_i ax ay
            obtain ⟨rfl, rfl⟩ := hc
            have h1 : ev dec E n fn H0 (.c ax :: .c ay :: k) a H = some r := h
            refine awp_seq ((IH n (Nat.lt_succ_self n) fn H0 ax (.c ay :: k) a H r h1 N m nt x hnt hx).mono fun e a' H' hp => ?_)
            by_cases he : e = .normal
            · subst he
              obtain ⟨j, hj, h2⟩ := hp
              exact (IH j (by omega) fn H0 ay k a' H' r h2 N m nt y hnt hy).mono fun e2 a2 H2 ⟨j2, hj2, h3⟩ => ⟨j2, by omega, h3⟩
            · have := post_weaken (n' := n + 1) (k' := k) (Nat.le_succ n) (fun x a H m hx => evX_c hx) he hp
              cases e <;> first | exact absurd rfl he | exact this
          · cases hc
        · cases hc
      | cond cx x y =>
        simp only [compC] at hc
        split at hc
        · rename_i x' hx
          split at hc
          · rename_i y' hy
            simp only [Option.some.injEq] at hc
            cases ac <;> (try rw [hseq _ _ rfl] at hc) <;> simp [AC.strip] at hc
            rename_i ax ay
            obtain ⟨rfl, rfl, rfl⟩ := hc
            simp only [ev] at h
            split at h
            · rename_i b hb
              rw [cx0_eval] at hb
              refine awp_cond hb ?_
              split at h
              · rename_i e
                rw [if_pos e]
                exact (IH n (Nat.lt_succ_self n) fn H0 _ k a H r h N m nt x hnt hx).mono fun e2 a2 H2 ⟨j2, hj2, h3⟩ => ⟨j2, by omega, h3⟩
              · rename_i e
                rw [if_neg e]
                exact (IH n (Nat.lt_succ_self n) fn H0 _ k a H r h N m nt y hnt hy).mono fun e2 a2 H2 ⟨j2, hj2, h3⟩ => ⟨j2, by omega, h3⟩
            · cases h
          · cases hc
        · cases hc
      | block id x =>
        simp only [compC] at hc
        split at hc
        · rename_i x' hx
          simp only [Option.some.injEq] at hc
          cases ac <;> (try rw [hseq _ _ rfl] at hc) <;> simp [AC.strip] at hc
          rename_i ax
          obtain ⟨rfl, rfl⟩ := hc
          have h1 : ev dec E n fn H0 (.c ax :: .blk id :: k) a H = some r := h
          refine awp_block ((IH n (Nat.lt_succ_self n) fn H0 ax (.blk id :: k) a H r h1 N m nt x hnt hx).mono fun e a' H' hp => ?_)
          obtain ⟨j, hj, h2⟩ := hp
          cases e with
          | normal =>
            have h2' : ev dec E j fn H0 (.blk id :: k) a' H' = some r := h2
            cases j with
            | zero => cases h2'
            | succ j => exact ⟨j, by omega, h2'⟩
          | exit id' =>
            simp only [evX, unw] at h2
            show if id' = id then _ else _
            by_cases e : id' = id
            · rw [if_pos e]
              rw [if_pos e.symm] at h2
              exact ⟨j, by omega, h2⟩
            · rw [if_neg e]
              rw [if_neg (fun h => e h.symm)] at h2
              exact ⟨j, by omega, h2⟩
          | ret => exact ⟨j, by omega, h2⟩
          | panic v => exact ⟨j, by omega, h2⟩
          | goto l => simp [evX] at h2
        · cases hc
      | loop x =>
        simp only [compC] at hc
        split at hc
        · rename_i x' hx
          simp only [Option.some.injEq] at hc
          cases ac <;> (try rw [hseq _ _ rfl] at hc) <;> simp [AC.strip] at hc
          rename_i lh ax
          subst hc
          have h1 : ev dec E n fn H0 (.c ax :: .lp lh ax (loopIn lh a H).2 :: k) (loopIn lh a H).1 (loopIn lh a H).2 = some r := h
          refine awp_pre (a' := (loopIn lh a H).1) (H' := (loopIn lh a H).2) (fun K act w hr => loopIn_sound lh hr) ?_
          refine awp_loop_cut (fun j a H => j ≤ n ∧ ev dec E j fn H0 (.c ax :: .lp lh ax H :: k) a H = some r) n ⟨Nat.le_refl n, h1⟩ ?_
          rintro j a1 H1 ⟨hj, h2⟩
          refine (IH j (by omega) fn H0 ax (.lp lh ax H1 :: k) a1 H1 r h2 N m nt x hnt hx).mono fun e a' H' hp => ?_
          by_cases he : e = .normal
          · subst he
            obtain ⟨j2, hj2, h3⟩ := hp
            have h3' : ev dec E j2 fn H0 (.lp lh ax H1 :: k) a' H' = some r := h3
            cases j2 with
            | zero => cases h3'
            | succ j2 =>
              simp only [ev] at h3'
              split at h3'
              · rename_i a2 H2 hb
                exact ⟨j2, a2, H2, by omega, ⟨by omega, h3'⟩, loopBack_sound hb⟩
              · cases h3'
          · have := post_weaken (n' := n + 1) (k' := k) (by omega) (fun x a H m hx => evX_lp hx) he hp
            cases e <;> first | exact absurd rfl he | exact this
        · cases hc
      | region id ops draw =>
        simp only [compC] at hc
        split at hc
        · rename_i ros hros
          cases draw with
          | false =>
            simp only [Bool.false_eq_true, if_false, Option.some.injEq] at hc
            cases ac <;> (try rw [hseq _ _ rfl] at hc) <;> simp [AC.strip] at hc
            subst hc
            intro K act w hg hr
            exact wp_region (ops_run (n := n + 1) hC hnt hg ops.toList ros (List.range ops.size) (n + 1) K a H act w (Nat.le_refl _) h hros (range_map ops) (.refl K) hr)
          | true =>
            simp only [if_true] at hc
            unfold cDraw at hc
            split at hc
            · rename_i hu
              obtain ⟨q, s, ord, hmem, hlen, hlex, hac⟩ := dTry_inv hc
              have hq : q ≠ .pure := by
                intro e; subst e
                simp at hmem
              have hac2 : ac = .dops s [] [] (ord.map fun k => (ros.getD k default, clsR q s ros k)) := by
                cases ac <;> (try rw [hseq _ _ rfl] at hac) <;> simp [AC.strip] at hac
                obtain ⟨rfl, rfl, rfl, rfl⟩ := hac; rfl
              subst hac2
              obtain ⟨Tf, Lf, _, _, _, _, h5⟩ := dlex_run hE (n := n + 1) hC hnt hros ord [] [] (n + 1) a H (lexE_lt hlex) (Nat.le_refl _) h
              exact awp_drawD (clsR q s ros) (dlaws hq hros hu) (KpT Tf) ord KpT.trans hE.mixed hlen hlex (h5 (.inl rfl))
            · cases hc
        · cases hc
      | _ => simp [compC] at hc

end
end Go.Am
end

section
set_option linter.unusedSimpArgs false
namespace Go.Am
open Go.RowKit

theorem splitD_inv {c A B : Code} {id : Nat} {ops : Array Oper} {os : List Oper} {o : Oper} (h : splitD c = some (A, id, ops, os, o, B)) : c = .seq A (.seq (.region id ops false) B) ∧ ops.toList = os ++ [o] := by
  unfold splitD at h
  split at h
  · split at h
    · rename_i o' os' hrev
      split at h
      · simp only [Option.some.injEq, Prod.mk.injEq] at h
        obtain ⟨rfl, rfl, rfl, rfl, rfl, rfl⟩ := h
        refine ⟨rfl, ?_⟩
        have := congrArg List.reverse hrev
        simpa using this
      · cases h
    · cases h
  · cases h

section
variable {dec : Dec} {E : REnv}

theorem compD_inv {P : Program} {G : Nat → Option (List AV)} {m : Nat → Bool} {n : Nat} {A B : Code} {id : Nat} {ops : Array Oper} {os : List Oper} {o : Oper} {a b : AC} {l : List RO} {x : RX}
    (h : compD P G m n (A, id, ops, os, o, B) = some (a, l, x, b)) : ∃ c f, o.op = .defer c ∧ c.callee = .value f ∧ o.guard = none ∧ o.dst = none ∧ c.args = #[] ∧ compC P G m n A = some a ∧ cROs P G (m id) n ops os = some l ∧ compC P G m n B = some b ∧ x = cx0 G f := by
  unfold compD at h
  simp only at h
  split at h
  · rename_i c hop
    split at h
    · rename_i f hcal
      split at h
      · rename_i hc
        simp only [Bool.and_eq_true, Option.isNone_iff_eq_none, Array.isEmpty_iff] at hc
        split at h
        · rename_i a' l' b' e1 e2 e3
          simp only [Option.some.injEq, Prod.mk.injEq] at h
          obtain ⟨rfl, rfl, rfl, rfl⟩ := h
          exact ⟨c, f, hop, hcal, hc.1.1, hc.1.2, hc.2, e1, e2, e3, rfl⟩
        · cases h
      · cases h
    · cases h
  · cases h

theorem dcall_sound (hE : E.Ok) {n : Nat} (hCl : Claim dec E n) {g : FuncId} {args : List AV} {d : Nat} {fn' : AFn} (hd : E.dfn g = some (d, fn')) {p : AV} {H H' : List AObj} {r : AV}
    (h : ev dec E n fn' H [.c fn'.c] (fset (env args) d p) H = some (.ret r, H')) {K : Know} {w : World} {cargs : Array Value} (hg : K.glob = E.G) (hi : Inv K H w) (hv : Vs K args cargs) {u u' : FrameMode} {pv : Value} (hp : V K p pv)
    (hrec : ∀ (c₀ : Frame) (cs : List Frame), c₀.mode = u → (recoverD (c₀ :: cs) = some (pv, { c₀ with mode := u' } :: cs)) ∨ (recoverD (c₀ :: cs) = none ∧ pv = .nilIface ∧ c₀ :: cs = { c₀ with mode := u' } :: cs)) :
    CallsD E.P g cargs u w fun e u2 w2 => ∃ v, e = .returned v ∧ u2 = u' ∧ ∃ K2, K.le K2 ∧ Inv K2 H' w2 := by
  obtain ⟨hcomp, hdf⟩ := hE.dfn g d fn' hd
  unfold compR at hcomp
  split at hcomp
  · cases hcomp
  · rename_i fnc hf
    split at hcomp
    · cases hcomp
    · split at hcomp
      · rename_i id ops B hb
        split at hcomp
        · rename_i o hops
          split at hcomp
          · rename_i c d' hop hdst
            split at hcomp
            · rename_i hcal
              split at hcomp
              · rename_i hcond
                simp only [Bool.and_eq_true, Option.isNone_iff_eq_none, decide_eq_true_eq] at hcond
                split at hcomp
                · rename_i b rs hB hrs
                  simp only [Option.some.injEq, Prod.mk.injEq] at hcomp
                  obtain ⟨rfl, rfl, h2, h3⟩ := hcomp
                  have hw := hCl fn' H fn'.c [] _ H (.ret r, H') h { n := args.length + (fnc.ntmps - args.length) } _ fnc.ntmps B (show fnc.ntmps ≤ args.length + (fnc.ntmps - args.length) from by omega) hB
                  refine callsD_of_wpS hf hb fun c₀ cs hm => wpS_seq (wpS_region ?_)
                  have hsz : ops.size = 1 := by rw [← Array.length_toList, hops]; rfl
                  have ho : ops[0]? = some o := by rw [← Array.getElem?_toList, hops]; rfl
                  have hrun : ∀ (act : Act), (execOp act.eval o).run E.P w = .ok .recover w := fun act => by
                    unfold execOp
                    simp only [hop, resolve, hcal, pure_bind, invoke]
                    rfl
                  rw [hsz, show List.range 1 = [0] from rfl]
                  simp only [wpOpsS, ho, Region.wanted, hcond.1, if_true, hrun]
                  have rest : ∀ cs', cs' = { c₀ with mode := u' } :: cs → B.wpS E.P (bodyPostS E.P fnc c₀ cs fun e u2 w2 => ∃ v, e = .returned v ∧ u2 = u' ∧ ∃ K2, K.le K2 ∧ Inv K2 H' w2)
                      (({ tmps := cargs ++ Array.replicate (fnc.ntmps - cargs.size) undef, defers := [] } : Act).put o.dst pv) cs' w := by
                    rintro cs' rfl
                    refine wpS_of_wp (wp_mono (hw K _ w hg ?_) ?_)
                    · rw [hdst]
                      have h0 : Rel { n := args.length + (fnc.ntmps - args.length) } K (env args) H { tmps := cargs ++ Array.replicate (fnc.ntmps - cargs.size) undef, defers := [] } w :=
                        ⟨hi, rfl, by simp [← hv.size], fun t => args_tmps hv _ t⟩
                      exact h0.put (.refl K) hi (dst := some d') hp (fun d e => by cases e; exact Nat.lt_of_lt_of_le hcond.2 (show fnc.ntmps ≤ args.length + (fnc.ntmps - args.length) from by omega))
                    · rintro e act w' ⟨K', x, a', H2, hk, he, hr, m, hm2, hx⟩
                      cases x with
                      | normal =>
                        cases e <;> first | exact (he : False).elim | skip
                        have hx' : ev dec E m fn' H [] a' H2 = some (.ret r, H') := hx
                        cases m with
                        | zero => cases hx'
                        | succ m =>
                          simp only [ev, hdf] at hx'
                          obtain ⟨cv, h5, K2, r2, H3, h6, h7, h8, h9, h10⟩ := fin_sound h3 hrs hi hk hr hx'
                          subst h10
                          exact ⟨hr.defers, u', rfl, cv, h5, cv, rfl, rfl, K2, h6, h8⟩
                      | ret =>
                        cases e <;> first | exact (he : False).elim | skip
                        simp only [evX, finKE, hdf] at hx
                        obtain ⟨cv, h5, K2, r2, H3, h6, h7, h8, h9, h10⟩ := fin_sound h3 hrs hi hk hr hx
                        subst h10
                        exact ⟨hr.defers, u', rfl, cv, h5, cv, rfl, rfl, K2, h6, h8⟩
                      | panic v =>
                        simp only [evX, finPKE, hdf] at hx
                        unfold finP at hx
                        split at hx <;> cases hx
                      | exit id => simp [evX, unw] at hx
                      | goto l => simp [evX] at hx
                  rcases hrec c₀ cs hm with h1 | ⟨h1, h2, h3⟩
                  · rw [h1]
                    exact rest _ rfl
                  · rw [h1]
                    subst h2
                    exact rest _ h3
                · cases hcomp
              · cases hcomp
            · cases hcomp
          · cases hcomp
        · cases hcomp
      · cases hcomp

end
end Go.Am
end

section
set_option linter.unusedSimpArgs false
namespace Go.Am
open Go.RowKit

section
variable {dec : Dec} {E : REnv}

theorem compR_enter {P : Program} {G : Nat → Option (List AV)} {g : FuncId} {x : Nat × AC × Nat × List RRes} (h : compR P G g = some x) (args : Array Value) (w : World) : (callFunc g args).run P w = .ok (.enter g args) w := by
  unfold compR at h
  split at h
  · cases h
  · rename_i fn hf
    split at h
    · cases h
    · rename_i hn
      split at h
      · rename_i hb
        exact callFunc_enter hf (by simpa using hn) (by rw [hb]; rfl) args w
      · cases h

/-- At the end of a function that defers a call. -/
theorem leave_sound (hE : E.Ok) {n : Nat} (hCl : Claim dec E n) {fn' : AFn} {fnc : Func} {rs : List RRes} (h3 : rs = fn'.res) (hrs : cRes E.P fnc.results.toList = some rs) {N : Fr} {K K' : Know} {H H2 H3 : List AObj} {w w' : World} {a' : Env} {act : Act} {r : ARes} {H' : List AObj}
    (hi : Inv K H w) (hk : K.le K') (hr : Rel N K' a' H2 act w') {v p : AV} (hcall : callDE E (ev dec E n) v p H2 = some H3) (hf : fin dec fn' H a' H3 = some (r, H')) (hg : K.glob = E.G) {g2 : FuncId} {vs us : Array Value} (hv : V K' v (.func (.func g2) vs us)) {pv : Value} (hp : V K' p pv) {u u' : FrameMode}
    (hu : u ≠ .run) (hrec : ∀ (c₀ : Frame) (cs : List Frame), c₀.mode = u → (recoverD (c₀ :: cs) = some (pv, { c₀ with mode := u' } :: cs)) ∨ (recoverD (c₀ :: cs) = none ∧ pv = .nilIface ∧ c₀ :: cs = { c₀ with mode := u' } :: cs)) (hs : settle u' = .returning) :
    Leaves E.P fnc act.tmps (LiftR K fun r2 H2 => r2 = r ∧ H2 = H') [{ target := .fn (.func g2) us, args := vs }] u w' := by
  unfold callDE at hcall
  split at hcall
  · rename_i g first cap
    split at hcall
    · rename_i d fd hd
      split at hcall
      · rename_i rv H4 hev
        cases hcall
        obtain ⟨vs', us', hve, h1, h2⟩ := hv.fn_inv
        cases hve
        obtain ⟨hcomp, hdf⟩ := hE.dfn _ d fd hd
        have hargs := h1.append h2
        refine leaves_cons hu (f := g2) (args := vs ++ us) ?_ ?_
        · have := compR_enter hcomp (vs ++ us) w'
          exact this
        · refine (dcall_sound hE hCl hd hev (hk.glob.trans hg) hr.inv hargs hp hrec).mono ?_
          rintro e u2 w2 ⟨v2, rfl, rfl, K2, hk2, hi2⟩
          simp only [hs]
          have hr2 : Rel N K2 a' _ act w2 := ⟨hi2, hr.defers, hr.size, fun t => (hr.tmps t).mono hk2⟩
          obtain ⟨cv, h5, h6⟩ := fin_sound h3 hrs hi (hk.trans hk2) hr2 hf
          exact ⟨cv, h5, h6⟩
      · cases hcall
    · cases hcall
  · cases hcall

theorem call_dfr (hE : E.Ok) {n : Nat} (hC : ∀ j, j < n → CallOk dec E j) (hc : ∀ j, j ≤ n → Claim dec E j) {g : FuncId} {fn' : AFn} {fnc : Func} {rs : List RRes} {args : List AV} {H : List AObj} {r : ARes} {H' : List AObj}
    {l : List RO} {x : RX} {aB : AC} (hdf : fn'.dfr = some (l, x, aB)) (hf : E.P.funcs[g]? = some fnc)
    (hname : (fnc.name == "runtime.NumGoroutine") = false) {A B : Code} {id : Nat} {ops : Array Oper} {os : List Oper} {o : Oper} (hb : fnc.body = some (.seq A (.seq (.region id ops false) B))) (hops : ops.toList = os ++ [o])
    (h3 : rs = fn'.res) (hrs : cRes E.P fnc.results.toList = some rs) (hA : compC E.P E.G (fn'.muts.contains ·) fnc.ntmps A = some fn'.c.strip) (hB : compC E.P E.G (fn'.muts.contains ·) fnc.ntmps B = some aB.strip)
    (hros : cROs E.P E.G (fn'.muts.contains id) fnc.ntmps ops os = some l) {c : Call} {f : Operand} (hop : o.op = .defer c) (hcal : c.callee = .value f) (hgd : o.guard = none) (hdst : o.dst = none) (hca : c.args = #[]) (hx : x = cx0 E.G f)
    (h : ev dec E n fn' H [.c fn'.c, .c (.ops l), .df x aB] (env args) H = some (r, H')) : ACalls E.P E.G g args H fun r2 H2 => r2 = r ∧ H2 = H' := by
  have hnt : fnc.ntmps ≤ args.length + (fnc.ntmps - args.length) := by omega
  have hw := hc n (Nat.le_refl n) fn' H fn'.c [.c (.ops l), .df x aB] (env args) H (r, H') h { n := args.length + (fnc.ntmps - args.length) } _ fnc.ntmps A hnt hA
  intro K w cargs hg hi hv
  refine .inl ⟨callFunc_enter hf hname (by simp [hb]) cargs w, ?_⟩
  refine calls_of_wp_defers hf hb (wp_seq (wp_mono (hw K _ w hg ⟨hi, rfl, by simp [← hv.size], fun t => args_tmps hv _ t⟩) ?_))
  rintro e act w' ⟨K', xe, a', H2, hk, he, hr, m, hm, hx'⟩
  cases xe with
  | normal =>
    cases e <;> first | exact (he : False).elim | skip
    have hx2 : ev dec E m fn' H [.c (.ops l), .df x aB] a' H2 = some (r, H') := hx'
    refine wp_seq (wp_region ?_)
    have hsz : List.range ops.size = List.range os.length ++ [os.length] := by
      rw [← Array.length_toList, hops]
      simp [List.range_succ]
    rw [hsz]
    refine ops_runG (n := n) hC (N := { n := args.length + (fnc.ntmps - args.length) }) hnt hg (l2 := [os.length]) ?_ ?_ os l (List.range os.length) m K' a' H2 act w' (by omega) hx2 hros ?_ hk hr
    · -- the call is deferred
      intro j K1 a1 H1 act1 w1 hj hk1 hr1 hev
      cases j with
      | zero => cases hev
      | succ j =>
        simp only [ev] at hev
        split at hev
        · rename_i g2 first cap hfe
          split at hev
          · rename_i hsome
            have ho : ops[os.length]? = some o := by rw [← Array.getElem?_toList, hops]; simp
            rw [wpOps_cons, wpOp, ho]
            have hfv := rx0_sound (hk1.glob.trans hg) hr1 f
            rw [← hx, hfe] at hfv
            obtain ⟨vs, us, hfv2, h1, h2⟩ := hfv.fn_inv
            have hrun : (execOp act1.eval o).run E.P w1 = .ok (.defer { target := .fn (.func g2) us, args := vs }) w1 := by
              unfold execOp
              simp only [hop, resolve, hcal, hfv2, hca, pure_bind, Deferred.ofValue, Array.map_empty, Array.append_empty]
              rfl
            simp only [Region.wanted, hgd, if_true]
            refine .inl ?_
            unfold Oper.wp
            rw [hrun, Oper.upon_defer, hdst]
            have hd0 : act1.defers = [] := hr1.defers
            have hr2 : Rel { n := args.length + (fnc.ntmps - args.length), ds := [{ target := .fn (.func g2) us, args := vs }] } K1 a1 H1 (({ act1 with defers := { target := .fn (.func g2) us, args := vs } :: act1.defers } : Act).put none undef) w1 :=
              ⟨hr1.inv, by rw [hd0]; rfl, hr1.size, hr1.tmps⟩
            show Code.wp E.P B _ _ w1
            refine wp_mono (hc j (by omega) fn' H aB [.dr (.fn (.func g2) first cap)] a1 H1 (r, H') hev _ _ fnc.ntmps B hnt hB K1 _ w1 (hk1.glob.trans hg) hr2) ?_
            rintro e act2 w2 ⟨K2, x2, a2, H3, hk2, he2, hr3, m2, hm2, hx3⟩
            have hfv3 : V K2 (.fn (.func g2) first cap) (.func (.func g2) vs us) := by
              rw [← hfv2]; exact hfv.mono hk2
            have hds : act2.defers = [{ target := .fn (.func g2) us, args := vs }] := hr3.defers
            have hk3 := hk1.trans hk2
            have plain : ∀ m3, m3 ≤ n → finKE dec E (ev dec E m3) fn' H [.dr (.fn (.func g2) first cap)] a2 H3 = some (r, H') → Leaves E.P fnc act2.tmps (LiftR K fun r2 H2 => r2 = r ∧ H2 = H') act2.defers .returning w2 := fun m3 hm3 hx4 => by
              simp only [finKE, hdf, drOf] at hx4
              split at hx4
              · rename_i H4 hcl
                rw [hds]
                refine leave_sound hE (hc m3 hm3) h3 hrs hi hk3 hr3 hcl hx4 hg hfv3 (.nilif) (u := .returning) (u' := .returning) (by simp) (fun c₀ cs hm => .inr ⟨by simp [recoverD, hm], rfl, by rw [← hm]⟩) rfl
              · cases hx4
            cases x2 with
            | normal =>
              cases e <;> first | exact (he2 : False).elim | skip
              have hx4 : ev dec E m2 fn' H [.dr (.fn (.func g2) first cap)] a2 H3 = some (r, H') := hx3
              cases m2 with
              | zero => cases hx4
              | succ m2 => exact plain m2 (by omega) hx4
            | ret =>
              cases e <;> first | exact (he2 : False).elim | skip
              exact plain m2 (by omega) hx3
            | panic v =>
              cases e <;> first | exact (he2 : False).elim | skip
              obtain ⟨cv, rfl, hcv⟩ := he2
              simp only [evX, finPKE, hdf, drOf] at hx3
              split at hx3
              · rename_i H4 hcl
                show Leaves E.P fnc act2.tmps _ act2.defers _ w2
                rw [hds]
                refine leave_sound hE (hc m2 (by omega)) h3 hrs hi hk3 hr3 hcl hx3 hg hfv3 hcv (u := .panicking [{ v := cv, recovered := false }]) (u' := .panicking [{ v := cv, recovered := true }]) (by simp) (fun c₀ cs hm => .inl (by simp [recoverD, hm])) rfl
              · cases hx3
            | exit id => simp [evX, unw] at hx3
            | goto l => simp [evX] at hx3
          · cases hev
        · cases hev
    · intro j K1 a1 H1 act1 w1 v cv hj hk1 hv1 hr1 hev
      simp [finPKE, hdf, drOf] at hev
    · refine List.ext_getElem? fun i => ?_
      rw [List.getElem?_map, List.getElem?_map]
      by_cases hi' : i < os.length
      · rw [List.getElem?_range hi']
        simp only [Option.map_some]
        rw [← Array.getElem?_toList, hops, List.getElem?_append_left hi', List.getElem?_eq_getElem hi']
        rfl
      · rw [List.getElem?_eq_none (by simp; omega), List.getElem?_eq_none (by omega)]
        rfl
  | ret => simp [evX, finKE, hdf, drOf] at hx'
  | panic v => simp [evX, finPKE, hdf, drOf] at hx'
  | exit id => simp [evX, unw] at hx'
  | goto l => simp [evX] at hx'

theorem call_step (hE : E.Ok) {n : Nat} (hC : ∀ j, j < n → CallOk dec E j) (hc : ∀ j, j ≤ n → Claim dec E j) : CallOk dec E n := by
  intro g args H r H' h
  unfold callE runF at h
  split at h
  · rename_i fn' hfn
    have hcomp := hE.fn g fn' hfn
    unfold compF at hcomp
    split at hcomp
    · cases hcomp
    · rename_i fnc hf
      split at hcomp
      · cases hcomp
      · rename_i hname
        split at hcomp
        · cases hcomp
        · rename_i c hb
          split at hcomp
          · cases hcomp
          · rename_i rs hrs
            split at hcomp
            · rename_i hsp
              split at hcomp
              · cases hcomp
              · rename_i ac hac
                simp only [Option.some.injEq, Prod.mk.injEq] at hcomp
                obtain ⟨rfl, h2, h3, h4⟩ := hcomp
                have hdf : fn'.dfr = none := by
                  cases hd : fn'.dfr with
                  | none => rfl
                  | some x => rw [hd] at h4; cases h4
                simp only [hdf] at h
                exact call_plain (hc n (Nat.le_refl n)) hdf hf (by simpa using hname) hb h3 hrs hac h
            · rename_i x hsp
              split at hcomp
              · cases hcomp
              · rename_i ac l y B hcd
                simp only [Option.some.injEq, Prod.mk.injEq] at hcomp
                obtain ⟨rfl, h2, h3, h4⟩ := hcomp
                obtain ⟨A0, id, ops, os, o, B0⟩ := x
                obtain ⟨rfl, hops⟩ := splitD_inv hsp
                obtain ⟨cc, f, e1, e2, e3, e4, e5, e6, e7, e8, e9⟩ := compD_inv hcd
                cases hd : fn'.dfr with
                | none => rw [hd] at h4; cases h4
                | some x =>
                  obtain ⟨l', x', aB⟩ := x
                  rw [hd] at h4
                  simp only [Option.map_some, Option.some.injEq, Prod.mk.injEq] at h4
                  obtain ⟨rfl, rfl, rfl⟩ := h4
                  simp only [hd] at h
                  exact call_dfr hE hC hc hd hf (by simpa using hname) hb hops h3 hrs e6 e8 e7 e1 e2 e3 e4 e5 e9 h
  · exact hE.orc g args H r H' h

theorem all_sound (hE : E.Ok) : ∀ n, Claim dec E n ∧ CallOk dec E n := by
  intro n
  induction n using Nat.strongRecOn with
  | ind n ih =>
    have h1 := claim_step (fun j hj => (ih j hj).2) hE (fun j hj => (ih j hj).1)
    exact ⟨h1, call_step hE (fun j hj => (ih j hj).2) fun j hj => by
      rcases Nat.lt_or_eq_of_le hj with h | rfl
      · exact (ih j h).1
      · exact h1⟩

end
end Go.Am
end

section
namespace Go.Am

mutual
def AV.eqb : AV → AV → Bool
  | .unk, .unk => true
  | .bool a, .bool b => a == b
  | .int k m, .int k' n => decide (k = k') && decide (m = n)
  | .str s, .str t => decide (s = t)
  | .nilp, .nilp => true
  | .ptr i o, .ptr i' o' => Nat.beq i i' && Nat.beq o o'
  | .vptr e r i o, .vptr e' r' i' o' => Nat.beq e e' && AV.eqbR r r' && Nat.beq i i' && Nat.beq o o'
  | .slice t e r, .slice t' e' r' => decide (t = t') && Nat.beq e e' && AV.eqbR r r'
  | .rslice i o l e r, .rslice i' o' l' e' r' => Nat.beq i i' && Nat.beq o o' && Nat.beq l l' && Nat.beq e e' && r == r'
  | .nilmap, .nilmap => true
  | .map i, .map i' => Nat.beq i i'
  | .vmap es, .vmap es' => AV.eqbE es es'
  | .sdp t r, .sdp t' r' => Nat.beq t t' && AV.eqbR r r'
  | .fn (.func g) a b, .fn (.func g') a' b' => Nat.beq g g' && AV.eqbL a a' && AV.eqbL b b'
  | .nilfn, .nilfn => true
  | .iface t v, .iface t' v' => Nat.beq t t' && AV.eqb v v'
  | .nilif, .nilif => true
  | .agg a, .agg b => AV.eqbL a b
  | .tuple a, .tuple b => AV.eqbL a b
  | _, _ => false
def AV.eqbL : List AV → List AV → Bool
  | [], [] => true
  | x :: l, y :: m => AV.eqb x y && AV.eqbL l m
  | _, _ => false
def AV.eqbR : List (List AV) → List (List AV) → Bool
  | [], [] => true
  | x :: l, y :: m => AV.eqbL x y && AV.eqbR l m
  | _, _ => false
def AV.eqbE : List (AV × AV) → List (AV × AV) → Bool
  | [], [] => true
  | x :: l, y :: m => AV.eqbP x y && AV.eqbE l m
  | _, _ => false
def AV.eqbP : AV × AV → AV × AV → Bool
  | (x, y), (x', y') => AV.eqb x x' && AV.eqb y y'
end

mutual
theorem AV.eqb_eq : ∀ {x y : AV}, AV.eqb x y = true → x = y
  | .unk, y, h => by cases y <;> simp [AV.eqb] at h; rfl
  | .bool a, y, h => by cases y <;> simp [AV.eqb] at h; rw [h]
  | .int k m, y, h => by cases y <;> simp [AV.eqb] at h; rw [h.1, h.2]
  | .str s, y, h => by cases y <;> simp [AV.eqb] at h; rw [h]
  | .nilp, y, h => by cases y <;> simp [AV.eqb] at h; rfl
  | .ptr i o, y, h => by cases y <;> simp [AV.eqb] at h; rw [h.1, h.2]
  | .vptr e r i o, y, h => by
    cases y <;> simp [AV.eqb] at h
    obtain ⟨⟨⟨h1, h2⟩, h3⟩, h4⟩ := h
    rw [h1, AV.eqbR_eq h2, h3, h4]
  | .slice t e r, y, h => by
    cases y <;> simp [AV.eqb] at h
    obtain ⟨⟨h1, h2⟩, h3⟩ := h
    rw [h1, h2, AV.eqbR_eq h3]
  | .rslice i o l e r, y, h => by
    cases y <;> simp [AV.eqb] at h
    obtain ⟨⟨⟨⟨h1, h2⟩, h3⟩, h4⟩, h5⟩ := h
    rw [h1, h2, h3, h4, h5]
  | .nilmap, y, h => by cases y <;> simp [AV.eqb] at h; rfl
  | .map i, y, h => by cases y <;> simp [AV.eqb] at h; rw [h]
  | .vmap es, y, h => by cases y <;> simp [AV.eqb] at h; rw [AV.eqbE_eq h]
  | .sdp t r, y, h => by
    cases y <;> simp [AV.eqb] at h
    rw [h.1, AV.eqbR_eq h.2]
  | .fn (.func g) a b, .fn (.func g') a' b', h => by
    simp [AV.eqb] at h
    obtain ⟨⟨h1, h2⟩, h3⟩ := h
    rw [h1, AV.eqbL_eq h2, AV.eqbL_eq h3]
  | .fn (.func g) a b, .fn (.method _) a' b', h => by simp [AV.eqb] at h
  | .fn (.func g) a b, .fn (.methodOf _ _) a' b', h => by simp [AV.eqb] at h
  | .fn (.func g) a b, .fn (.via _ _ _ _) a' b', h => by simp [AV.eqb] at h
  | .fn (.func g) a b, .fn (.yield _) a' b', h => by simp [AV.eqb] at h
  | .fn (.method _) a b, y, h => by simp [AV.eqb] at h
  | .fn (.methodOf _ _) a b, y, h => by simp [AV.eqb] at h
  | .fn (.via _ _ _ _) a b, y, h => by simp [AV.eqb] at h
  | .fn (.yield _) a b, y, h => by simp [AV.eqb] at h
  | .fn (.func g) a b, .unk, h => by simp [AV.eqb] at h
  | .fn (.func g) a b, .bool _, h => by simp [AV.eqb] at h
  | .fn (.func g) a b, .int _ _, h => by simp [AV.eqb] at h
  | .fn (.func g) a b, .str _, h => by simp [AV.eqb] at h
  | .fn (.func g) a b, .nilp, h => by simp [AV.eqb] at h
  | .fn (.func g) a b, .ptr _ _, h => by simp [AV.eqb] at h
  | .fn (.func g) a b, .vptr _ _ _ _, h => by simp [AV.eqb] at h
  | .fn (.func g) a b, .slice _ _ _, h => by simp [AV.eqb] at h
  | .fn (.func g) a b, .rslice _ _ _ _ _, h => by simp [AV.eqb] at h
  | .fn (.func g) a b, .nilmap, h => by simp [AV.eqb] at h
  | .fn (.func g) a b, .map _, h => by simp [AV.eqb] at h
  | .fn (.func g) a b, .vmap _, h => by simp [AV.eqb] at h
  | .fn (.func g) a b, .sdp _ _, h => by simp [AV.eqb] at h
  | .fn (.func g) a b, .nilfn, h => by simp [AV.eqb] at h
  | .fn (.func g) a b, .iface _ _, h => by simp [AV.eqb] at h
  | .fn (.func g) a b, .nilif, h => by simp [AV.eqb] at h
  | .fn (.func g) a b, .agg _, h => by simp [AV.eqb] at h
  | .fn (.func g) a b, .tuple _, h => by simp [AV.eqb] at h
  | .nilfn, y, h => by cases y <;> simp [AV.eqb] at h; rfl
  | .iface t v, y, h => by
    cases y <;> simp [AV.eqb] at h
    rw [h.1, AV.eqb_eq h.2]
  | .nilif, y, h => by cases y <;> simp [AV.eqb] at h; rfl
  | .agg a, y, h => by cases y <;> simp [AV.eqb] at h; rw [AV.eqbL_eq h]
  | .tuple a, y, h => by cases y <;> simp [AV.eqb] at h; rw [AV.eqbL_eq h]
theorem AV.eqbL_eq : ∀ {x y : List AV}, AV.eqbL x y = true → x = y
  | [], y, h => by cases y <;> simp [AV.eqbL] at h; rfl
  | x :: l, y, h => by
    cases y <;> simp [AV.eqbL] at h
    rw [AV.eqb_eq h.1, AV.eqbL_eq h.2]
theorem AV.eqbR_eq : ∀ {x y : List (List AV)}, AV.eqbR x y = true → x = y
  | [], y, h => by cases y <;> simp [AV.eqbR] at h; rfl
  | x :: l, y, h => by
    cases y <;> simp [AV.eqbR] at h
    rw [AV.eqbL_eq h.1, AV.eqbR_eq h.2]
theorem AV.eqbE_eq : ∀ {x y : List (AV × AV)}, AV.eqbE x y = true → x = y
  | [], y, h => by cases y <;> simp [AV.eqbE] at h; rfl
  | x :: l, y, h => by
    cases y <;> simp [AV.eqbE] at h
    rw [AV.eqbP_eq h.1, AV.eqbE_eq h.2]
theorem AV.eqbP_eq : ∀ {x y : AV × AV}, AV.eqbP x y = true → x = y
  | (x, x'), (y, y'), h => by
    simp [AV.eqbP] at h
    rw [AV.eqb_eq h.1, AV.eqb_eq h.2]
end

def AObj.eqb : AObj → AObj → Bool
  | .dead, .dead => true
  | .cells a T, .cells b T' => AV.eqbL a b && Nat.beq T T'
  | .tok n T, .tok n' T' => Nat.beq n n' && Nat.beq T T'
  | .siter s n, .siter s' n' => decide (s = s') && Nat.beq n n'
  | .map a, .map b => AV.eqbE a b
  | _, _ => false

theorem AObj.eqb_eq {x y : AObj} (h : AObj.eqb x y = true) : x = y := by
  cases x <;> cases y <;> simp [AObj.eqb] at h <;> try rfl
  · rw [AV.eqbL_eq h.1, h.2]
  · rw [h.1, h.2]
  · rw [h.1, h.2]
  · rw [AV.eqbE_eq h]

/-- The second list begins as the first one. -/
def begins : List AObj → List AObj → Bool
  | [], _ => true
  | x :: l, y :: m => AObj.eqb x y && begins l m
  | _, _ => false

theorem begins_eq : ∀ {H H' : List AObj}, begins H H' = true → H'.take H.length = H
  | [], _, _ => by simp
  | x :: l, y, h => by
    cases y <;> simp [begins] at h
    rw [← AObj.eqb_eq h.1]
    simp [begins_eq h.2]

/-- What may be decided by looking. -/
def kdec : Dec where
  frz _ _ _ _ := .no
  hand _ _ _ := .no
  back _ _ _ _ := .no
  ap T L := if h : L.all (fun x => !T.contains x) = true then .yes (fun x hx ht => by
      have := List.all_eq_true.1 h x hx
      simp [ht] at this) else .no
  wide _ _ _ _ _ _ := .no
  same H H' := if h : (begins H H' && Nat.beq H.length H'.length) = true then .yes (by
      simp only [Bool.and_eq_true, Nat.beq_eq] at h
      have := begins_eq h.1
      rwa [h.2, List.take_length] at this) else .no
  keep H H' := if h : begins H H' = true then .yes (begins_eq h) else .no

end Go.Am
end

section
set_option linter.unusedSimpArgs false
namespace Go.Am
open Go.RowKit

theorem blt_lt {a b : Nat} (h : Nat.blt a b = true) : a < b := by rwa [Nat.blt_eq] at h

mutual
/-- A value that speaks of no object from the n-th on. -/
def wkb (n : Nat) : AV → Bool
  | .unk | .bool _ | .int _ _ | .str _ | .nilp | .nilmap | .nilfn | .nilif => true
  | .ptr i _ => Nat.blt i n
  | .rslice i _ _ _ _ => Nat.blt i n
  | .map i => Nat.blt i n
  | .vptr _ r _ _ => wkbR n r
  | .slice (.own t) _ r => Nat.blt t n && wkbR n r
  | .slice _ _ r => wkbR n r
  | .vmap es => wkbE n es
  | .sdp t r => Nat.blt t n && wkbR n r
  | .fn _ a b => wkbL n a && wkbL n b
  | .iface _ v => wkb n v
  | .agg l => wkbL n l
  | .tuple l => wkbL n l
def wkbL (n : Nat) : List AV → Bool
  | [] => true
  | x :: l => wkb n x && wkbL n l
def wkbR (n : Nat) : List (List AV) → Bool
  | [] => true
  | x :: l => wkbL n x && wkbR n l
def wkbE (n : Nat) : List (AV × AV) → Bool
  | [] => true
  | x :: l => wkbP n x && wkbE n l
def wkbP (n : Nat) : AV × AV → Bool
  | (x, y) => wkb n x && wkb n y
end

theorem wkbL_get {n : Nat} : ∀ {l : List AV} {i : Nat} {x : AV}, wkbL n l = true → l[i]? = some x → wkb n x = true
  | [], _, _, _, h => by simp at h
  | y :: l, 0, x, h, e => by simp only [wkbL, Bool.and_eq_true] at h; simp at e; subst e; exact h.1
  | y :: l, i + 1, x, h, e => by simp only [wkbL, Bool.and_eq_true] at h; simp at e; exact wkbL_get h.2 e

theorem wkbR_get {n : Nat} : ∀ {l : List (List AV)} {i : Nat} {x : List AV}, wkbR n l = true → l[i]? = some x → wkbL n x = true
  | [], _, _, _, h => by simp at h
  | y :: l, 0, x, h, e => by simp only [wkbR, Bool.and_eq_true] at h; simp at e; subst e; exact h.1
  | y :: l, i + 1, x, h, e => by simp only [wkbR, Bool.and_eq_true] at h; simp at e; exact wkbR_get h.2 e

theorem wkbE_get {n : Nat} : ∀ {l : List (AV × AV)} {i : Nat} {x y : AV}, wkbE n l = true → l[i]? = some (x, y) → wkb n x = true ∧ wkb n y = true
  | [], _, _, _, _, h => by simp at h
  | e0 :: l, 0, x, y, h, e => by simp only [wkbE, Bool.and_eq_true] at h; simp at e; subst e; simpa [wkbP] using h.1
  | e0 :: l, i + 1, x, y, h, e => by simp only [wkbE, Bool.and_eq_true] at h; simp at e; exact wkbE_get h.2 e

def wkbO (n : Nat) : AObj → Bool
  | .cells cs _ => wkbL n cs
  | .map es => wkbE n es
  | _ => true

/-- All that values ask of what is known. -/
structure VLe (K K' : Know) : Prop where
  imm : ∀ b o v, K.imm b o = some v → K'.imm b o = some v
  own : ∀ b x, K.own b = some x → K'.own b = some x
  loc : ∀ (i b : Nat), K.loc[i]? = some b → K'.loc[i]? = some b
  shape : ∀ b s, K.shape b = some s → K'.shape b = some s

theorem VLe.lt {K K' : Know} (h : VLe K K') {i : Nat} (hi : i < K.loc.length) : i < K'.loc.length :=
  (List.getElem?_eq_some_iff.1 (h.loc i _ (List.getElem?_eq_getElem hi))).1

theorem V.vle {K K' : Know} (h : VLe K K') {a : AV} {v : Value} (hv : V K a v) : V K' a v := by
  induction hv with
  | unk v => exact .unk v
  | bool b => exact .bool b
  | int k n => exact .int k n
  | str s => exact .str s
  | nilp => exact .nilp
  | ptr id off b hb => exact .ptr id off b (h.loc _ _ hb)
  | vptr esz rows i off b o vs hl hi hv ih => exact .vptr esz rows i off b o vs hl (fun i j r av h1 h2 => h.imm _ _ _ (hi i j r av h1 h2)) ih
  | slice0 tag esz a ht => exact .slice0 tag esz a ⟨fun t e => ⟨h.lt (ht.1 t e).1, (ht.1 t e).2⟩, ht.2⟩
  | sliceAny esz a cap => exact .sliceAny esz a cap
  | slice tag esz rows b o cap vs hl hi hv hc ht ih =>
    refine .slice tag esz rows b o cap vs hl (fun i j r av h1 h2 => h.imm _ _ _ (hi i j r av h1 h2)) ih hc ?_
    cases tag with
    | any => trivial
    | full => exact ht
    | nil => exact ht
    | own t => exact ⟨h.lt ht.1, ht.2.1, h.own _ _ ht.2.2⟩
  | rslice id off len esz room b cap hb hc hs => exact .rslice id off len esz room b cap (h.loc _ _ hb) hc (fun hr => let ⟨n, h1, h2⟩ := hs hr; ⟨n, h.shape _ _ h1, h2⟩)
  | vmap es b mes hb hl hk hv ih1 ih2 => exact .vmap es b mes (h.shape _ _ hb) hl ih1 ih2
  | nilmap => exact .nilmap
  | map id b hb => exact .map id b (h.loc _ _ hb)
  | sdp0 t p => exact .sdp0 t p
  | sdp t rows b cap vs htl ho hl hi hv hc ih => exact .sdp t rows b cap vs (h.lt htl) (h.own _ _ ho) hl (fun i j r av h1 h2 => h.imm _ _ _ (hi i j r av h1 h2)) ih hc
  | fn f first captured vs us h1 h2 hv hu ih1 ih2 => exact .fn f first captured vs us h1 h2 ih1 ih2
  | nilfn => exact .nilfn
  | iface t v x hx ih => exact .iface t v x ih
  | nilif => exact .nilif
  | agg cs vs h1 hv ih => exact .agg cs vs h1 ih
  | tuple cs vs h1 hv ih => exact .tuple cs vs h1 ih

theorem trunc_own_lt {K : Know} {n b t m : Nat} (h : K.own b = some (t, m)) (hlt : t < n) : (K.trunc n).own b = some (t, m) := by
  simp [Know.trunc, h, hlt]

theorem wkb_V {K : Know} {n : Nat} (hn : n ≤ K.loc.length) {a : AV} {v : Value} (hv : V K a v) (hw : wkb n a = true) : V (K.trunc n) a v := by
  have hlen : (K.trunc n).loc.length = n := by simp [Know.trunc, Nat.min_eq_left hn]
  induction hv with
  | unk v => exact .unk v
  | bool b => exact .bool b
  | int k n => exact .int k n
  | str s => exact .str s
  | nilp => exact .nilp
  | ptr id off b hb => exact .ptr id off b (loc_trunc hb (blt_lt hw))
  | vptr esz rows i off b o vs hl hi hv ih => exact .vptr esz rows i off b o vs hl (fun i j r av h1 h2 => hi i j r av h1 h2) fun i j r av h1 h2 => ih i j r av h1 h2 (wkbL_get (wkbR_get hw h1) h2)
  | slice0 tag esz a ht =>
    refine .slice0 tag esz a ⟨fun t e => ⟨?_, (ht.1 t e).2⟩, ht.2⟩
    subst e
    simp only [wkb, Bool.and_eq_true] at hw
    rw [hlen]; exact blt_lt hw.1
  | sliceAny esz a cap => exact .sliceAny esz a cap
  | slice tag esz rows b o cap vs hl hi hv hc ht ih =>
    have hr : wkbR n rows = true := by cases tag <;> simp only [wkb, Bool.and_eq_true] at hw <;> first | exact hw.2 | exact hw
    refine .slice tag esz rows b o cap vs hl (fun i j r av h1 h2 => hi i j r av h1 h2) (fun i j r av h1 h2 => ih i j r av h1 h2 (wkbL_get (wkbR_get hr h1) h2)) hc (tagOk_trunc ht fun t e => ?_)
    subst e
    simp only [wkb, Bool.and_eq_true] at hw
    exact blt_lt hw.1
  | rslice id off len esz room b cap hb hc hs => exact .rslice id off len esz room b cap (loc_trunc hb (blt_lt hw)) hc hs
  | vmap es b mes hb hl hk hv ih1 ih2 => exact .vmap es b mes hb hl (fun i k v he => ih1 i k v he (wkbE_get hw he).1) fun i k v he => ih2 i k v he (wkbE_get hw he).2
  | nilmap => exact .nilmap
  | map id b hb => exact .map id b (loc_trunc hb (blt_lt hw))
  | sdp0 t p => exact .sdp0 t p
  | sdp t rows b cap vs htl ho hl hi hv hc ih =>
    simp only [wkb, Bool.and_eq_true] at hw
    have ht := blt_lt hw.1
    exact .sdp t rows b cap vs (by rw [hlen]; exact ht) (trunc_own_lt ho ht) hl hi (fun i j r av h1 h2 => ih i j r av h1 h2 (wkbL_get (wkbR_get hw.2 h1) h2)) hc
  | fn f first captured vs us h1 h2 hv hu ih1 ih2 =>
    simp only [wkb, Bool.and_eq_true] at hw
    exact .fn f first captured vs us h1 h2 (fun i av h => ih1 i av h (wkbL_get hw.1 h)) fun i av h => ih2 i av h (wkbL_get hw.2 h)
  | nilfn => exact .nilfn
  | iface t v x hx ih => exact .iface t v x (ih hw)
  | nilif => exact .nilif
  | agg cs vs h1 hv ih => exact .agg cs vs h1 fun i av h => ih i av h (wkbL_get hw h)
  | tuple cs vs h1 hv ih => exact .tuple cs vs h1 fun i av h => ih i av h (wkbL_get hw h)

/-- What each element becomes. -/
def mapO {α β : Type} (f : α → Option β) : List α → Option (List β)
  | [] => some []
  | x :: l => match f x, mapO f l with
    | some y, some l' => some (y :: l')
    | _, _ => none

theorem mapO_get {α β : Type} {f : α → Option β} : ∀ {l : List α} {l' : List β}, mapO f l = some l' → l'.length = l.length ∧ ∀ (i : Nat) (y : β), l'[i]? = some y → ∃ x, l[i]? = some x ∧ f x = some y
  | [], l', h => by cases h; exact ⟨rfl, fun i y h => by simp at h⟩
  | x :: l, l', h => by
    simp only [mapO] at h
    split at h
    · rename_i a' l2 e1 e2
      cases h
      obtain ⟨g1, g2⟩ := mapO_get e2
      refine ⟨by simp [g1], fun i av h => ?_⟩
      cases i with
      | zero => simp at h; subst h; exact ⟨x, rfl, e1⟩
      | succ i => simp at h; simpa using g2 i av h
    · cases h

def Tag.fz : Tag → Tag
  | .nil => .nil
  | _ => .any

/-- A result, taken as a value: what was made (from the n-th object on) is looked at once. -/
def fzD : Nat → Nat → List AObj → AV → Option AV
  | 0, _, _, _ => none
  | k + 1, n, H, v =>
    match v with
    | .rslice id off len esz _ => bif Nat.blt id n then none else (match H[id]? with
        | some (.cells cs _) => bif Nat.ble (off + len * esz) cs.length then (match mapO (mapO (fzD k n H)) (rchunk esz len (cs.drop off)) with
          | some rows => some (.slice .any esz rows)
          | none => none) else none
        | _ => none)
    | .map id => bif Nat.blt id n then none else (match H[id]? with
        | some (.map es) => bif wkbE n es then some (.vmap es) else none
        | _ => none)
    | .slice tag esz rows => (match mapO (mapO (fzD k n H)) rows with
        | some rows => some (.slice tag.fz esz rows)
        | none => none)
    | .agg cs => (match mapO (fzD k n H) cs with
        | some cs => some (.agg cs)
        | none => none)
    | .tuple cs => (match mapO (fzD k n H) cs with
        | some cs => some (.tuple cs)
        | none => none)
    | v => bif wkb n v then some v else none

def fzV (n : Nat) (H : List AObj) (v : AV) : Option AV := fzD 12 n H v

theorem Inv.live_own {K : Know} {H : List AObj} {w : World} (hi : Inv K H w) {id b : Nat} {x : AObj} (hx : H[id]? = some x) (hl : x.live = true) (hb : K.loc[id]? = some b) : K.own b = none := by
  cases ho : K.own b with
  | none => rfl
  | some p =>
    obtain ⟨_, fr, us, T, lo, hh, _, g2, _⟩ := hi.own b p.1 p.2 ho
    have := hi.obj id x hx
    cases x with
    | dead => cases hl
    | tok => cases hl
    | cells cs T0 =>
      obtain ⟨b2, vs, T2, h1, h2, h3, h4, h5, h6, h7, h8, h9⟩ := this
      rw [hb] at h1; cases h1; rw [ho] at h7; cases h7
    | siter s p => obtain ⟨b2, h1, h2, h3⟩ := this; rw [hb] at h1; cases h1; rw [g2] at h3; cases h3
    | map es => obtain ⟨b2, me, cl, h1, h2, h3, _⟩ := this; rw [hb] at h1; cases h1; rw [g2] at h3; cases h3

def shpOf (w : World) (b : Nat) : Option Shp :=
  match w.heap[b]? with
  | some (.cells vs _ _) => some (.rows vs.size)
  | some (.map es _) => some (.mapv es)
  | _ => none

theorem shpOf_ok {w : World} {b : Nat} {s : Shp} (h : shpOf w b = some s) : ShpOk w b s := by
  unfold shpOf at h
  split at h
  · rename_i vs T f hb; cases h; exact ⟨vs, T, f, hb, rfl⟩
  · rename_i es c hb; cases h; exact ⟨c, hb⟩
  · cases h
theorem shpOf_of {w : World} {b : Nat} {s : Shp} (h : ShpOk w b s) : shpOf w b = some s := by
  cases s with
  | rows n => obtain ⟨vs, T, f, h1, h2⟩ := h; simp [shpOf, h1, h2]
  | mapv es => obtain ⟨c, h1⟩ := h; simp [shpOf, h1]

section
variable {P : Program} {G : Nat → Option (List AV)}

/-- Objects are no longer looked at. -/
theorem Inv.unsee {K : Know} {H H' : List AObj} {w : World} (hi : Inv K H w) (hl : H'.length = H.length) (hs : ∀ (i : Nat) (x : AObj), H'[i]? = some x → x = .dead ∨ H[i]? = some x)
    (ht : ∀ (t fr : Nat) (T : TypeId), H[t]? = some (.tok fr T) → H'[t]? = some (.tok fr T)) : Inv K H' w := by
  refine ⟨hi.below, hi.base, hi.imm, by rw [hi.len, hl], fun id x hx => ?_, fun i j x y hx hy lx ly hij => ?_, fun b t n ho => ?_, hi.glob, hi.shape⟩
  · rcases hs id x hx with rfl | h
    · trivial
    · exact hi.obj id x h
  · rcases hs i x hx with rfl | h1
    · cases lx
    · rcases hs j y hy with rfl | h2
      · cases ly
      · exact hi.inj i j x y h1 h2 lx ly hij
  · obtain ⟨hb, fr, us, T, lo, hh, g1, g2⟩ := hi.own b t n ho
    exact ⟨hb, fr, us, T, lo, hh, ht t fr T g1, g2⟩

/-- A call that leaves the objects that it may see as they were, and hands out values: its outcome is the same beside any other objects. -/
theorem ACalls.frame {He H1 : List AObj} {f : FuncId} {args : List AV} {v0 v : AV} (h : ACalls P G f args He fun r H' => r = .ret v0 ∧ H' = H1) (hk1 : H1.take He.length = He)
    (hG : ∀ n g cs, G g = some cs → wkbL n cs = true) (ha : ∀ a ∈ args, wkb He.length a = true) (hH : ∀ x ∈ He, wkbO He.length x = true) (hf : fzV He.length H1 v0 = some v)
    (H2 : List AObj) (hm2 : He.length ≤ H2.length) (hag : ∀ (i : Nat) (x : AObj), He[i]? = some x → x = .dead ∨ H2[i]? = some x)
    (htok : ∀ (t fr : Nat) (T : TypeId), t < He.length → H2[t]? = some (.tok fr T) → He[t]? = some (.tok fr T)) : ACalls P G f args H2 fun r H' => r = .ret v ∧ H' = H2 := by
  classical
  intro K w cargs hg hi hv
  generalize hm : He.length = m at *
  have hlen : m ≤ K.loc.length := by rw [hi.len]; exact hm2
  have hkill : Inv K (He ++ H2.drop m) w := by
    refine hi.unsee (by simp [hm]; omega) (fun i x hx => ?_) (fun t fr T ht => ?_)
    · by_cases hlt : i < m
      · rw [List.getElem?_append_left (by omega)] at hx; exact hag i x hx
      · rw [List.getElem?_append_right (by omega), List.getElem?_drop, hm, Nat.add_sub_cancel' (by omega)] at hx; exact .inr hx
    · by_cases hlt : t < m
      · rw [List.getElem?_append_left (by omega)]; exact htok t fr T hlt ht
      · rw [List.getElem?_append_right (by omega), List.getElem?_drop, hm, Nat.add_sub_cancel' (by omega)]; exact ht
  have htk : (He ++ H2.drop m).take m = He := by rw [← hm]; simp
  have hkl : ∀ {i : Nat}, i < m → (He ++ H2.drop m)[i]? = He[i]? := fun h => List.getElem?_append_left (by omega)
  have hvis : ∀ {i : Nat} {x : AObj}, He[i]? = some x → x.live = true → H2[i]? = some x := fun h hl => by
    rcases hag _ _ h with rfl | h
    · cases hl
    · exact h
  -- what may be written to
  let M2 : Nat → Prop := fun b => w.heap.size ≤ b ∨ (∃ (i : Nat) (x : AObj), He[i]? = some x ∧ x.live = true ∧ K.loc[i]? = some b) ∨ ∃ t n, K.own b = some (t, n) ∧ t < m
  have hlt_of : ∀ {i : Nat} {x : AObj}, He[i]? = some x → i < m := fun h => by have := (List.getElem?_eq_some_iff.1 h).1; omega
  have hM : ∀ b, M2 b → K.base b := fun b hb => by
    rcases hb with hb | ⟨i, x, h1, h2, h3⟩ | ⟨t, n, h1, _⟩
    · exact hi.base b hb
    · obtain ⟨b', h4, h5, _⟩ := hi.live_block (hvis h1 h2) h2
      rw [h3] at h4; cases h4; exact h5
    · exact (hi.own b t n h1).1
  have hno : ∀ {i b : Nat} {x : AObj}, He[i]? ≠ some x → H2[i]? = some x → x.live = true → K.loc[i]? = some b → ¬ M2 b := fun {i b x} h1 h2 h3 h4 hb => by
    rcases hb with hb | ⟨j, y, g1, g2, g3⟩ | ⟨t, n, g1, _⟩
    · obtain ⟨b', h5, _, h6⟩ := hi.live_block h2 h3
      rw [h4] at h5; cases h5; omega
    · have hj := hvis g1 g2
      exact hi.inj i j x y h2 hj h3 g2 (fun e => by subst e; rw [hj] at h2; cases h2; exact h1 g1) (h4.trans g3.symm)
    · rw [hi.live_own h2 h3 h4] at g1; cases g1
  let K2 : Know := { K.trunc m with base := M2, w0 := w }
  have hv2 : VLe (K.trunc m) K2 := ⟨fun _ _ _ h => h, fun _ _ h => h, fun _ _ h => h, fun _ _ h => h⟩
  have hglw : ∀ (g : Nat) (cs : List AV), K.glob g = some cs → wkb m (.vptr cs.length [cs] 0 0) = true := fun g cs hgc => by
    have := hG m g cs (by rw [← hg]; exact hgc)
    simp [wkb, wkbR, this]
  have hit : Inv (K.trunc m) He w := by
    have := hkill.trunc m (fun i cs T0 hlt hcs j av x hj hx => by
      have h1 : He[i]? = some (.cells cs T0) := (hkl hlt).symm.trans hcs
      exact wkb_V hlen hx (wkbL_get (hH _ (List.mem_of_getElem? h1)) hj)) (fun i es hlt hes j x y z hj => by
      have h1 : He[i]? = some (.map es) := (hkl hlt).symm.trans hes
      have h2 := wkbE_get (hH _ (List.mem_of_getElem? h1)) hj
      exact ⟨fun hx => wkb_V hlen hx h2.1, fun hy => wkb_V hlen hy h2.2⟩)
      (fun g cs hgc => wkb_V hlen (hi.glob g cs hgc) (hglw g cs hgc))
    rwa [htk] at this
  have hi2 : Inv K2 He w := by
    refine ⟨Kept.refl _ _, fun b hb => .inl hb, hit.imm, hit.len, fun id x hx => ?_, hit.inj, fun b t n ho => ?_, fun g cs hgc => (hit.glob g cs hgc).vle hv2, hit.shape⟩
    · have := hit.obj id x hx
      have hMb : ∀ b, x.live = true → (K.trunc m).loc[id]? = some b → M2 b := fun b hl hb => .inr (.inl ⟨id, x, hx, hl, by
        have h' : (K.loc.take m)[id]? = some b := hb
        rwa [List.getElem?_take, if_pos (hlt_of hx)] at h'⟩)
      cases x with
      | dead => trivial
      | tok => trivial
      | cells cs T0 =>
        obtain ⟨b, vs, T, h1, h2, h3, h4, h5, h6, h7, h8, h9⟩ := this
        exact ⟨b, vs, T, h1, hMb b rfl h1, h3, h4, fun i av hh => (h5 i av hh).vle hv2, h6, h7, h8, h9⟩
      | siter s p => obtain ⟨b, h1, h2, h3⟩ := this; exact ⟨b, h1, hMb b rfl h1, h3⟩
      | map es =>
        obtain ⟨b, me, cl, h1, h2, h3, h4, h5, h6⟩ := this
        exact ⟨b, me, cl, h1, hMb b rfl h1, h3, h4, fun i k v hh => let ⟨e, g1, g2, g3⟩ := h5 i k v hh; ⟨e, g1, g2.vle hv2, g3.vle hv2⟩, h6⟩
    · obtain ⟨_, h2⟩ := hit.own b t n ho
      obtain ⟨h3, h4⟩ := Know.trunc_own ho
      exact ⟨.inr (.inr ⟨t, n, h3, h4⟩), h2⟩
  have hargs : Vs K2 args cargs := ⟨hv.size, fun i av hh => (wkb_V hlen (hv.at_ i av hh) (ha av (List.mem_of_getElem? hh))).vle hv2⟩
  -- the way back
  have back : ∀ e w', LiftR K2 (fun r H' => r = .ret v0 ∧ H' = H1) e w' → LiftR K (fun r H' => r = .ret v ∧ H' = H2) e w' := by
    rintro e w' ⟨K3, r, H', hle, hend, hi3, rfl, rfl⟩
    have hb3 : K3.base = M2 := hle.base
    have hm3 : m ≤ K3.loc.length := by
      rw [hi3.len]
      have := congrArg List.length hk1
      simp at this; omega
    have hH1 : ∀ {i : Nat}, i < m → H'[i]? = He[i]? := fun {i} hlt => by rw [← hk1, List.getElem?_take, if_pos hlt]
    have hloc3 : ∀ {i b : Nat}, i < m → K.loc[i]? = some b → K3.loc[i]? = some b := fun {i b} hlt hb => hle.loc i b (by
      show (K.loc.take m)[i]? = _
      rw [List.getElem?_take, if_pos hlt]; exact hb)
    have hloc3' : ∀ {i b : Nat}, i < m → K3.loc[i]? = some b → K.loc[i]? = some b := fun {i b} hlt hb => by
      have h1 : K.loc[i]? = some K.loc[i] := List.getElem?_eq_getElem (by omega)
      rw [hloc3 hlt h1] at hb; rw [h1]; exact hb
    let NB : Nat → Prop := fun b => ∃ (id : Nat) (x : AObj), m ≤ id ∧ H'[id]? = some x ∧ x.live = true ∧ K3.loc[id]? = some b
    have hNM : ∀ b, NB b → M2 b := fun b ⟨id, x, h1, h2, h3, h4⟩ => by
      obtain ⟨b', h5, h6, _⟩ := hi3.live_block h2 h3
      rw [h4] at h5; cases h5; rw [hb3] at h6; exact h6
    have hNO : ∀ b, NB b → K3.own b = none := fun b ⟨id, x, h1, h2, h3, h4⟩ => hi3.live_own h2 h3 h4
    have hNI : ∀ {i b : Nat} {x : AObj}, i < m → H'[i]? = some x → x.live = true → K3.loc[i]? = some b → ¬ NB b := fun {i b x} h1 h2 h3 h4 ⟨id, y, g1, g2, g3, g4⟩ =>
      hi3.inj i id x y h2 g2 h3 g3 (by omega) (h4.trans g4.symm)
    let K4 : Know := { imm := fun b o => if NB b then w'.cell? ⟨b, o, none⟩ else K3.imm b o, own := fun b => if M2 b then (K3.trunc m).own b else K.own b, loc := K.loc, base := K.base, w0 := K.w0, glob := K.glob, shape := fun b => if NB b then shpOf w' b else K3.shape b }
    have imm4 : ∀ {b o : Nat}, ¬ NB b → K4.imm b o = K3.imm b o := fun h => if_neg h
    have hv4 : VLe (K3.trunc m) K4 := by
      refine ⟨fun b o x hx => ?_, fun b x hx => ?_, fun i b hb => ?_, fun b s hs => ?_⟩
      · have hx' : K3.imm b o = some x := hx
        show (if NB b then _ else _) = _
        split
        · exact hi3.imm b o x hx'
        · exact hx'
      · obtain ⟨t, n⟩ := x
        have h1 := (Know.trunc_own hx).1
        have h2 := (hi3.own b t n h1).1
        rw [hb3] at h2
        show (if M2 b then _ else _) = _
        rw [if_pos h2]; exact hx
      · have h' : (K3.loc.take m)[i]? = some b := hb
        rw [List.getElem?_take] at h'
        split at h'
        · rename_i hlt; exact hloc3' hlt h'
        · cases h'
      · have hs' : K3.shape b = some s := hs
        show (if NB b then _ else _) = _
        split
        · exact shpOf_of (hi3.shape b s hs')
        · exact hs'
    have low4 : ∀ b, ¬ M2 b → (∀ o, K4.imm b o = K.imm b o) ∧ K4.shape b = K.shape b := fun b hb => by
      have hnb : ¬ NB b := fun e => hb (hNM b e)
      have := hle.low b hb
      exact ⟨fun o => (if_neg hnb).trans (this.1 o), (if_neg hnb).trans this.2⟩
    have hle4 : K.le K4 := by
      refine ⟨fun b o x hx => hv4.imm b o x (hle.imm b o x hx), fun b x hx => ?_, fun _ _ h => h, rfl, rfl, rfl, fun b s hs => hv4.shape b s (hle.shape b s hs), fun b hb => low4 b fun e => hb (hM b e)⟩
      obtain ⟨t, n⟩ := x
      show (if M2 b then _ else _) = _
      split
      · rename_i hb
        have hlt : t < m := by
          rcases hb with hb | ⟨i, x, h1, h2, h3⟩ | ⟨t', n', h1, h2⟩
          · have := hi.own_lt hx; omega
          · rw [hi.live_own (hvis h1 h2) h2 h3] at hx; cases hx
          · rw [hx] at h1; cases h1; exact h2
        exact trunc_own_lt (hle.own b _ (trunc_own_lt hx hlt)) hlt
      · exact hx
    have vback : ∀ {a : AV} {x : Value}, V K3 a x → wkb m a = true → V K4 a x := fun hx hw => (wkb_V hm3 hx hw).vle hv4
    have hk3 : Kept M2 w w' := by
      have := hi3.below
      rw [hb3, hle.w0] at this; exact this
    have hi4 : Inv K4 H2 w' := by
      refine ⟨hi.below.trans (hk3.mono hM), fun b hb => hi.base b (Nat.le_trans hk3.size hb), fun b o x hx => ?_, hi.len, fun id x hx => ?_, hi.inj, fun b t n ho => ?_, fun g cs hgc => (hi.glob g cs hgc).mono hle4, fun b s hs => ?_⟩
      · have hx' : (if NB b then w'.cell? ⟨b, o, none⟩ else K3.imm b o) = some x := hx
        split at hx'
        · exact hx'
        · exact hi3.imm b o x hx'
      · by_cases hx1 : He[id]? = some x
        · have hlt := hlt_of hx1
          have hx3 : H'[id]? = some x := (hH1 hlt).trans hx1
          have hcl := hH x (List.mem_of_getElem? hx1)
          have := hi3.obj id x hx3
          have hMb : ∀ b, K3.base b → M2 b := fun b hb => by rwa [hb3] at hb
          cases x with
          | dead => trivial
          | tok => trivial
          | cells cs T0 =>
            obtain ⟨b, vs, T, h1, h2, h3, h4, h5, h6, h7, h8, h9⟩ := this
            have hnb := hNI hlt hx3 rfl h1
            refine ⟨b, vs, T, hloc3' hlt h1, hM b (hMb b h2), h3, h4, fun i av hh => vback (h5 i av hh) (wkbL_get hcl hh), fun o => (imm4 hnb).trans (h6 o), ?_, (if_neg hnb).trans h8, h9⟩
            show (if M2 b then _ else _) = _
            rw [if_pos (hMb b h2)]; simp [Know.trunc, h7]
          | siter s p => obtain ⟨b, h1, h2, h3⟩ := this; exact ⟨b, hloc3' hlt h1, hM b (hMb b h2), h3⟩
          | map es =>
            obtain ⟨b, me, cl, h1, h2, h3, h4, h5, h6⟩ := this
            have hnb := hNI hlt hx3 rfl h1
            exact ⟨b, me, cl, hloc3' hlt h1, hM b (hMb b h2), h3, h4, fun i k v hh => let ⟨e, g1, g2, g3⟩ := h5 i k v hh; ⟨e, g1, vback g2 (wkbE_get hcl hh).1, vback g3 (wkbE_get hcl hh).2⟩, (if_neg hnb).trans h6⟩
        · by_cases ly : x.live = true
          · refine (hi.obj id x hx).mono hle4 (fun b hb _ _ => hk3.block b (hno hx1 hx ly hb)) (fun b hb _ => ?_)
            have hnm := hno hx1 hx ly hb
            have hl := low4 b hnm
            exact ⟨fun o h => (hl.1 o).trans h, fun h => (if_neg hnm).trans h, fun h => hl.2.trans h⟩
          · cases x <;> first | exact absurd rfl ly | trivial
      · have ho' : (if M2 b then (K3.trunc m).own b else K.own b) = some (t, n) := ho
        split at ho'
        · rename_i hb
          obtain ⟨h1, h2⟩ := Know.trunc_own ho'
          obtain ⟨_, fr, us, T, lo, hh, g1, g2, g3, g4, g5⟩ := hi3.own b t n h1
          have hnb : ¬ NB b := fun e => by rw [hNO b e] at h1; cases h1
          exact ⟨hM b hb, fr, us, T, lo, hh, by
            rcases hag t _ ((hH1 h2).symm.trans g1) with h | h
            · cases h
            · exact h, g2, g3, g4, fun o x hx => g5 o x (by rw [← imm4 hnb]; exact hx)⟩
        · rename_i hb
          obtain ⟨h0, fr, us, T, lo, hh, g1, g2, g3, g4, g5⟩ := hi.own b t n ho'
          exact ⟨h0, fr, us, T, lo, hh, g1, by rw [hk3.block b hb]; exact g2, g3, g4, fun o x hx => g5 o x (by rw [← (low4 b hb).1 o]; exact hx)⟩
      · have hs' : (if NB b then shpOf w' b else K3.shape b) = some s := hs
        split at hs'
        · exact shpOf_ok hs'
        · exact hi3.shape b s hs'
    have fzD_ok : ∀ (k : Nat) {a a' : AV} {x : Value}, V K3 a x → fzD k m H' a = some a' → V K4 a' x := by
      intro k
      induction k with
      | zero => intro a a' x _ he; cases he
      | succ k ih =>
      intro a a' x hx he
      have other : ∀ {a'' : AV}, V K3 a x → (bif wkb m a then some a else none) = some a'' → V K4 a'' x := fun hx he => by
        cases hw : wkb m a with
        | false => rw [hw] at he; cases he
        | true => rw [hw] at he; cases he; exact vback hx hw
      -- rows
      have two : ∀ {rows rows' : List (List AV)}, mapO (mapO (fzD k m H')) rows = some rows' → rows'.length = rows.length ∧ (∀ (i : Nat) (r : List AV), rows'[i]? = some r → ∃ r0, rows[i]? = some r0 ∧ r.length = r0.length ∧ ∀ (j : Nat) (av : AV), r[j]? = some av → ∃ a0, r0[j]? = some a0 ∧ fzD k m H' a0 = some av) := fun h => by
        obtain ⟨g1, g2⟩ := mapO_get h
        refine ⟨g1, fun i r hr => ?_⟩
        obtain ⟨r0, e1, e2⟩ := g2 i r hr
        obtain ⟨e3, e4⟩ := mapO_get e2
        exact ⟨r0, e1, e3, e4⟩
      cases hx with
      | rslice id off len esz room b cap hb hcap hro =>
        simp only [fzD] at he
        cases hlt : Nat.blt id m with
        | true => rw [hlt] at he; cases he
        | false =>
          rw [hlt, cond_false] at he
          have hge : m ≤ id := by
            refine Nat.le_of_not_lt fun e => ?_
            rw [← Nat.blt_eq, hlt] at e; cases e
          split at he
          · rename_i cs T0 hc
            cases hcnd : Nat.ble (off + len * esz) cs.length with
            | false => rw [hcnd] at he; cases he
            | true =>
              rw [hcnd, cond_true] at he
              have hsz := Nat.le_of_ble_eq_true hcnd
              split at he
              · rename_i rows' hrows
                cases he
                obtain ⟨t1, t2⟩ := two hrows
                rw [rchunk_length] at t1
                obtain ⟨b2, vs, T2, h1, h2, h3, h4, h5, h6, h7, h8, h9⟩ := hi3.obj _ _ hc
                rw [hb] at h1; cases h1
                have hnb : NB b := ⟨id, _, hge, hc, rfl, hb⟩
                have row : ∀ (i j : Nat) (r : List AV) (av : AV), (rchunk esz len (cs.drop off))[i]? = some r → r[j]? = some av → i < len ∧ j < esz ∧ cs[off + i * esz + j]? = some av := fun i j r av hr hj => by
                  obtain ⟨g1, rfl⟩ := rchunk_get esz len (cs.drop off) i r hr
                  rw [List.getElem?_take] at hj
                  split at hj
                  · rename_i hlt
                    rw [List.getElem?_drop, List.getElem?_drop] at hj
                    exact ⟨g1, hlt, by rw [← hj]; congr 1; omega⟩
                  · cases hj
                have := V.slice (K := K4) .any esz rows' b off cap (fun i j => vs.getD (off + i * esz + j) undef) (fun r hr => ?_) (fun i j r av hr hj => ?_) (fun i j r av hr hj => ?_) (by rw [t1]; exact hcap) trivial
                · rwa [t1] at this
                · obtain ⟨i, hi1⟩ := List.mem_iff_getElem?.1 hr
                  obtain ⟨r0, e1, e2, _⟩ := t2 i r hi1
                  obtain ⟨g1, rfl⟩ := rchunk_get esz len (cs.drop off) i r0 e1
                  have : i * esz + esz ≤ len * esz := by rw [← Nat.succ_mul]; exact Nat.mul_le_mul_right _ g1
                  rw [e2]; simp; omega
                · obtain ⟨r0, e1, _, e3⟩ := t2 i r hr
                  obtain ⟨a0, e4, e5⟩ := e3 j av hj
                  obtain ⟨g1, g2, g3⟩ := row i j r0 a0 e1 e4
                  have hlt : off + i * esz + j < vs.size := Nat.lt_of_lt_of_le (List.getElem?_eq_some_iff.1 g3).1 h4
                  show (if NB b then _ else _) = _
                  rw [if_pos hnb, cell_of_heap h3, Array.getElem?_eq_getElem hlt]
                  simp [Array.getD, hlt]
                · obtain ⟨r0, e1, _, e3⟩ := t2 i r hr
                  obtain ⟨a0, e4, e5⟩ := e3 j av hj
                  obtain ⟨g1, g2, g3⟩ := row i j r0 a0 e1 e4
                  exact ih (h5 _ _ g3) e5
              · cases he
          · cases he
      | map id b hb =>
        simp only [fzD] at he
        cases hlt : Nat.blt id m with
        | true => rw [hlt] at he; cases he
        | false =>
          rw [hlt, cond_false] at he
          have hge : m ≤ id := by
            refine Nat.le_of_not_lt fun e => ?_
            rw [← Nat.blt_eq, hlt] at e; cases e
          split at he
          · rename_i es hc
            cases hw : wkbE m es with
            | false => rw [hw] at he; cases he
            | true =>
              rw [hw] at he; cases he
              obtain ⟨b2, mes, clock, h1, h2, h3, h4, h5, h6⟩ := hi3.obj _ _ hc
              rw [hb] at h1; cases h1
              have hnb : NB b := ⟨id, _, hge, hc, rfl, hb⟩
              refine .vmap es b mes ((if_pos hnb).trans (by simp [shpOf, h3])) h4 (fun i k v he => ?_) (fun i k v he => ?_)
              · obtain ⟨e, g1, g2, g3⟩ := h5 i k v he
                rw [show mes.getD i ⟨undef, undef, 0⟩ = e by simp [Array.getD_eq_getD_getElem?, g1]]
                exact vback g2 (wkbE_get hw he).1
              · obtain ⟨e, g1, g2, g3⟩ := h5 i k v he
                rw [show mes.getD i ⟨undef, undef, 0⟩ = e by simp [Array.getD_eq_getD_getElem?, g1]]
                exact vback g3 (wkbE_get hw he).2
          · cases he
      | slice0 tag esz a h =>
        cases he
        cases tag with
        | nil => rw [h.2 rfl]; exact .slice0 .nil esz none ⟨fun _ e => (by cases e), fun _ => rfl⟩
        | any => exact .slice0 .any esz a ⟨fun _ e => (by cases e), fun e => (by cases e)⟩
        | full => exact .slice0 .any esz a ⟨fun _ e => (by cases e), fun e => (by cases e)⟩
        | own t => exact .slice0 .any esz a ⟨fun _ e => (by cases e), fun e => (by cases e)⟩
      | sliceAny esz a cap => cases he; exact .sliceAny esz a cap
      | slice tag esz rows b o cap vs hl him hvv hc ht =>
        simp only [fzD] at he
        split at he
        · rename_i rows' hrows
          cases he
          obtain ⟨t1, t2⟩ := two hrows
          have htag : tag.fz = .any := by cases tag <;> first | rfl | exact (ht : False).elim
          have := V.slice (K := K4) .any esz rows' b o cap vs (fun r hr => ?_) (fun i j r av hr hj => ?_) (fun i j r av hr hj => ?_) (by rw [t1]; exact hc) trivial
          · rw [htag]; rwa [t1] at this
          · obtain ⟨i, hi1⟩ := List.mem_iff_getElem?.1 hr
            obtain ⟨r0, e1, e2, _⟩ := t2 i r hi1
            rw [e2]; exact hl r0 (List.mem_of_getElem? e1)
          · obtain ⟨r0, e1, _, e3⟩ := t2 i r hr
            obtain ⟨a0, e4, e5⟩ := e3 j av hj
            exact hv4.imm _ _ _ (him i j r0 a0 e1 e4)
          · obtain ⟨r0, e1, _, e3⟩ := t2 i r hr
            obtain ⟨a0, e4, e5⟩ := e3 j av hj
            exact ih (hvv i j r0 a0 e1 e4) e5
        · cases he
      | unk => exact other (.unk _) he
      | bool b => exact other (.bool b) he
      | int k n => exact other (.int k n) he
      | str s => exact other (.str s) he
      | nilp => exact other .nilp he
      | ptr id off b hb => exact other (.ptr id off b hb) he
      | vptr esz rows i off b o vs hl hi hv => exact other (.vptr esz rows i off b o vs hl hi hv) he
      | vmap es b mes hb hl hk hv => exact other (.vmap es b mes hb hl hk hv) he
      | nilmap => exact other .nilmap he
      | sdp0 t p => exact other (.sdp0 t p) he
      | sdp t rows b cap vs htl ho hl hi hv hc => exact other (.sdp t rows b cap vs htl ho hl hi hv hc) he
      | fn f first captured vs us h1 h2 hv hu => exact other (.fn f first captured vs us h1 h2 hv hu) he
      | nilfn => exact other .nilfn he
      | iface t v x hx => exact other (.iface t v x hx) he
      | nilif => exact other .nilif he
      | agg cs vs h1 hv =>
        simp only [fzD] at he
        split at he
        · rename_i cs' hcs
          cases he
          obtain ⟨g1, g2⟩ := mapO_get hcs
          exact .agg _ _ (g1.trans h1) fun i av h => by
            obtain ⟨a0, e1, e2⟩ := g2 i av h
            exact ih (hv i a0 e1) e2
        · cases he
      | tuple cs vs h1 hv =>
        simp only [fzD] at he
        split at he
        · rename_i cs' hcs
          cases he
          obtain ⟨g1, g2⟩ := mapO_get hcs
          exact .tuple _ _ (g1.trans h1) fun i av h => by
            obtain ⟨a0, e1, e2⟩ := g2 i av h
            exact ih (hv i a0 e1) e2
        · cases he
    refine ⟨K4, .ret v, H2, hle4, ?_, hi4, rfl, rfl⟩
    cases e with
    | panicked c => exact hend.elim
    | outgrown => exact hend.elim
    | returned x =>
      have hx : V K3 v0 x := hend
      show V K4 v x
      exact fzD_ok 12 hx hf
  rcases h K2 w cargs hg hi2 hargs with ⟨h1, h2⟩ | ⟨cv, w', h1, h2⟩
  · exact .inl ⟨h1, h2.mono back⟩
  · exact .inr ⟨cv, w', h1, back _ _ h2⟩
end

end Go.Am
end

section
set_option linter.unusedSimpArgs false
namespace Go.Am
open Go.RowKit

/-- A function without a body, and what the model has for it. -/
structure ExtAt (P : Program) (f : FuncId) (e : Array Value → Sem Value) : Prop where
  run : ∀ (args : Array Value) (w : World), (callFunc f args).run P w = ((e args).run P w).andThen fun v w' => .ok (.value v) w'

theorem ExtAt.of {P : Program} {f : FuncId} {fn : Func} {e : Array Value → Sem Value} (hf : P.funcs[f]? = some fn) (hname : (fn.name == "runtime.NumGoroutine") = false)
    (hb : fn.body.isNone = true) (hn : Extern.findNext fn = none) (he : Extern.find fn = some e) : ExtAt P f e := ⟨fun args w => run_callFunc_extern hf hname hb hn he args w⟩

section
variable {P : Program} {G : Nat → Option (List AV)} {f : FuncId} {e : Array Value → Sem Value}

theorem ExtAt.calls (h : ExtAt P f e) {args : List AV} {H : List AObj} {R : ARes → List AObj → Prop}
    (hr : ∀ (K : Know) (w : World) (cargs : Array Value), Inv K H w → Vs K args cargs → ∃ cv w', (e cargs).run P w = .ok cv w' ∧ LiftR K R (.returned cv) w') : ACalls P G f args H R := fun K w cargs _ hi hv => by
  obtain ⟨cv, w', h1, h2⟩ := hr K w cargs hi hv
  exact .inr ⟨cv, w', by rw [h.run, h1]; rfl, h2⟩

theorem ext_count (h : ExtAt P f Extern.BytealgCount.count) (s : List UInt8) (c : Int) (H : List AObj) :
    ACalls P G f [.str s, .int .u8 c] H fun r H' => r = .ret (.int .i64 (Lib.countByte s c.toNat.toUInt8 : Nat)) ∧ H' = H := h.calls fun K w cargs hi hv => by
  obtain ⟨x, y, rfl, hx, hy⟩ := two_args hv
  cases hx; cases hy
  exact ⟨_, _, Lib.run_countString _ _ _, K, .ret (.int .i64 (Lib.countByte s c.toNat.toUInt8 : Nat)), H, .refl K, V.int _ _, hi, rfl, rfl⟩

theorem ext_index (h : ExtAt P f Extern.BytealgIndexByte.indexByte) (s : List UInt8) (c : Int) (H : List AObj) :
    ACalls P G f [.str s, .int .u8 c] H fun r H' => r = .ret (.int .i64 (Lib.indexByte s c.toNat.toUInt8)) ∧ H' = H := h.calls fun K w cargs hi hv => by
  obtain ⟨x, y, rfl, hx, hy⟩ := two_args hv
  cases hx; cases hy
  exact ⟨_, _, Lib.run_indexByteString _ _ _, K, .ret (.int .i64 (Lib.indexByte s c.toNat.toUInt8)), H, .refl K, V.int _ _, hi, rfl, rfl⟩

theorem ext_same (h : ExtAt P f Extern.AbiNoEscape.same) (v : AV) (H : List AObj) : ACalls P G f [v] H fun r H' => r = .ret v ∧ H' = H := h.calls fun K w cargs hi hv => by
  obtain ⟨x, rfl, hx⟩ := one_arg hv
  exact ⟨_, _, Lib.run_noEscape _ x, K, .ret v, H, .refl K, hx, hi, rfl, rfl⟩

theorem ext_noZero {ps : Array TypeId} {t e : TypeId} (h : ExtAt P f (Extern.BytealgMakeNoZero.makeNoZero ps #[t])) (ht : P.underlying t = some (.slice e)) (n : Nat) (hn : n ≤ 281474976710656) (H : List AObj) :
    ACalls P G f [.int .i64 n] H fun r H' => r = .ret (.rslice H.length 0 n 1 true) ∧ H' = H ++ [.cells (List.replicate n .unk) e] := h.calls fun K w cargs hi hv => by
  obtain ⟨x, rfl, hx⟩ := one_arg hv
  cases hx
  obtain ⟨cs, h1, h2, _⟩ := Lib.run_makeNoZero w ps t e ht n hn
  have hi2 := hi.drew.drew
  have hal := hi2.allocObj (.cells (List.replicate n .unk) e) (.cells cs e) rfl (some (.rows cs.size)) (fun s h => by cases h; exact ⟨cs, e, (0, 0), by rw [heap_alloc, if_pos rfl], rfl⟩) fun w' hw' g1 g2 =>
    ⟨w.drew.drew.heap.size, cs, e, by simp [Know.pushS], hi2.new, hw', by simpa using h2, fun k av hk => by
      have := List.mem_replicate.1 (List.mem_of_getElem? hk)
      rw [this.2]; exact .unk _, g1, g2, by simp [Know.pushS], rfl⟩
  refine ⟨_, _, h1, K.pushS w.drew.drew.heap.size (some (.rows cs.size)), .ret (.rslice H.length 0 n 1 true), _, K.le_pushS _ _ hi2.shape_base, ?_, hal, rfl, rfl⟩
  exact V.rslice _ _ _ _ _ _ _ (by simp [Know.pushS, ← hi.len]) h2 (fun _ => ⟨cs.size, by simp [Know.pushS], by omega⟩)

end

/-- Calls that stand beside other objects, by running them alone. -/
def woK (E0 : REnv) (n : Nat) (f : FuncId) (args : List AV) (H : List AObj) : Option (AV × List Nat) :=
  bif wkbL 0 args then (match callE kdec E0 n f args [] with
    | some (.ret v0, H1) => match fzV 0 H1 v0 with
      | some v => some (v, [])
      | none => none
    | _ => none)
  else bif wkbL H.length args && H.all (wkbO H.length) then (match callE kdec E0 n f args H with
    | some (.ret v0, H1) => bif begins H H1 then (match fzV H.length H1 v0 with
      | some v => some (v, List.range H.length)
      | none => none) else none
    | _ => none)
  else none

theorem wkbL_mem {n : Nat} {l : List AV} (h : wkbL n l = true) : ∀ a ∈ l, wkb n a = true := fun a ha => by
  obtain ⟨i, hi⟩ := List.mem_iff_getElem?.1 ha
  exact wkbL_get h hi

theorem agree_len {α : Type} {H H2 : List α} (h : ∀ i, i < H.length → H2[i]? = H[i]?) : H.length ≤ H2.length := by
  refine Nat.le_of_not_lt fun e => ?_
  have h1 := h H2.length e
  rw [List.getElem?_eq_none (Nat.le_refl _), List.getElem?_eq_getElem e] at h1
  cases h1

theorem woK_ok {E0 : REnv} (h0 : E0.Ok) (hG : ∀ n g cs, E0.G g = some cs → wkbL n cs = true) {n : Nat} {f : FuncId} {args : List AV} {H : List AObj} {v : AV} {L : List Nat} (h : woK E0 n f args H = some (v, L)) :
    ∀ H2 : List AObj, (∀ id ∈ L, id < H.length → H2[id]? = H[id]?) → ACalls E0.P E0.G f args H2 fun r H' => r = .ret v ∧ H' = H2 := by
  intro H2 hag
  unfold woK at h
  cases hw : wkbL 0 args with
  | true =>
    rw [hw, cond_true] at h
    split at h
    · rename_i v0 H1 hc
      split at h
      · rename_i v' hf
        cases h
        exact ACalls.frame (He := []) ((all_sound h0 n).2 _ _ _ _ _ hc |>.mono fun r H' e => e) (by simp) hG (wkbL_mem hw) (fun x hx => by simp at hx) hf H2 (by simp) (fun i x hx => by simp at hx) (fun t fr T ht => by simp at ht)
      · cases h
    · cases h
  | false =>
    rw [hw, cond_false] at h
    cases hw2 : wkbL H.length args && H.all (wkbO H.length) with
    | false => rw [hw2] at h; cases h
    | true =>
      rw [hw2, cond_true] at h
      simp only [Bool.and_eq_true] at hw2
      split at h
      · rename_i v0 H1 hc
        cases hb : begins H H1 with
        | false => rw [hb] at h; cases h
        | true =>
          rw [hb, cond_true] at h
          split at h
          · rename_i v' hf
            cases h
            exact ACalls.frame ((all_sound h0 n).2 _ _ _ _ _ hc |>.mono fun r H' e => e) (begins_eq hb) hG (wkbL_mem hw2.1) (fun x hx => List.all_eq_true.1 hw2.2 x hx) hf H2 (agree_len fun i hi => hag i (by simpa using hi) hi) (fun i x hx => .inr ((hag i (by simpa using (List.getElem?_eq_some_iff.1 hx).1) (List.getElem?_eq_some_iff.1 hx).1).trans hx)) (fun t fr T hlt ht => (hag t (by simpa using hlt) hlt).symm.trans ht)
          · cases h
      · cases h

/-- What is seen of objects is as it was. -/
def sees : List AObj → List AObj → Bool
  | [], _ => true
  | .dead :: _, .tok _ _ :: _ => false
  | .dead :: l, _ :: m => sees l m
  | x :: l, y :: m => AObj.eqb x y && sees l m
  | _, _ => false

theorem sees_ok : ∀ {H H2 : List AObj}, sees H H2 = true → H.length ≤ H2.length ∧ (∀ (i : Nat) (x : AObj), H[i]? = some x → x = .dead ∨ H2[i]? = some x) ∧
    (∀ (t fr : Nat) (T : TypeId), t < H.length → H2[t]? = some (.tok fr T) → H[t]? = some (.tok fr T))
  | [], _, _ => ⟨by simp, fun i x h => by simp at h, fun t fr T h => by simp at h⟩
  | x :: l, [], h => by cases x <;> simp [sees] at h
  | x :: l, y :: m, h => by
    have key : (x = .dead ∧ ∀ fr T, y ≠ .tok fr T) ∨ x = y := by
      cases x <;> cases y <;> simp only [sees, Bool.and_eq_true] at h <;> first | (cases h; done) | exact .inr (AObj.eqb_eq h.1) | exact .inl ⟨rfl, fun _ _ e => by cases e⟩
    have hr : sees l m = true := by
      cases x <;> cases y <;> simp only [sees, Bool.and_eq_true] at h <;> first | (cases h; done) | exact h.2 | exact h
    obtain ⟨h1, h2, h3⟩ := sees_ok hr
    refine ⟨by simpa using h1, fun i z hz => ?_, fun t fr T ht hz => ?_⟩
    · cases i with
      | zero => simp at hz; subst hz; rcases key with ⟨h, _⟩ | h
                · exact .inl h
                · exact .inr (by simp [h])
      | succ i => simp at hz; simpa using h2 i z hz
    · cases t with
      | zero => simp at hz; subst hz; rcases key with ⟨_, h⟩ | h
                · exact absurd rfl (h fr T)
                · simp [h]
      | succ t => simp at hz ht; simpa using h3 t fr T ht hz

/-- A call that is run alone. -/
def alone (E0 : REnv) (n : Nat) (f : FuncId) (args : List AV) (H : List AObj) : Option AV :=
  bif wkbL H.length args && H.all (wkbO H.length) then (match callE kdec E0 n f args H with
    | some (.ret v0, H1) => bif begins H H1 then fzV H.length H1 v0 else none
    | _ => none)
  else none

/-- A call that was run alone, found again wherever its objects are. -/
theorem piece_ok {E0 : REnv} (h0 : E0.Ok) (hG : ∀ n g cs, E0.G g = some cs → wkbL n cs = true) {n : Nat} {f : FuncId} {args : List AV} {He : List AObj} {v : AV}
    (h : alone E0 n f args He = some v) {H2 : List AObj} (hb : sees He H2 = true) : ACalls E0.P E0.G f args H2 fun r H' => r = .ret v ∧ H' = H2 := by
  unfold alone at h
  cases hw2 : wkbL He.length args && He.all (wkbO He.length) with
  | false => rw [hw2] at h; cases h
  | true =>
    rw [hw2, cond_true] at h
    simp only [Bool.and_eq_true] at hw2
    split at h
    · rename_i v0 H1 hc
      cases hb2 : begins He H1 with
      | false => rw [hb2] at h; cases h
      | true =>
        rw [hb2, cond_true] at h
        obtain ⟨h1, h2, h3⟩ := sees_ok hb
        exact ACalls.frame ((all_sound h0 n).2 _ _ _ _ _ hc |>.mono fun r H' e => e) (begins_eq hb2) hG (wkbL_mem hw2.1) (fun x hx => List.all_eq_true.1 hw2.2 x hx) h H2 h1 h2 h3
    · cases h

end Go.Am
end

section
namespace Go.Am

def CompOk (P : Program) (G : Nat → Option (List AV)) (f : FuncId) (af : AFn) : Prop := compF P G af.muts f = some (af.c.strip, af.n, af.res, af.dfr.map fun x => (x.1, x.2.1, x.2.2.strip))
def CompOkD (P : Program) (G : Nat → Option (List AV)) (f : FuncId) (x : Nat × AFn) : Prop := compR P G f = some (x.1, x.2.c.strip, x.2.n, x.2.res) ∧ x.2.dfr = none

theorem tab_leaf {α : Type} {C : Nat → α → Prop} {f k : Nat} {a af : α} (hc : C k a) (h : (bif Nat.beq f k then some a else none) = some af) : C f af := by
  cases hb : Nat.beq f k with
  | false => rw [hb] at h; cases h
  | true => rw [hb] at h; cases h; rw [Nat.eq_of_beq_eq_true hb]; exact hc

theorem tab_node {α : Type} {C : Prop} {b : Bool} {x y : Option α} {af : α} (h1 : x = some af → C) (h2 : y = some af → C) (h : (bif b then x else y) = some af) : C := by
  cases b
  · exact h2 h
  · exact h1 h

end Go.Am
end

section
namespace Go.Am

/-! Closed runs in pieces: calls that are run alone, each with those ahead of it. -/

structure Piece where
  f : FuncId
  args : List AV
  heap : List AObj
  v : AV

def dd (n : Nat) (l : List AObj) : List AObj := List.replicate n .dead ++ l

def pfind (f : FuncId) (args : List AV) (H : List AObj) : List Piece → Option AV
  | [] => none
  | p :: ps => bif Nat.beq f p.f && AV.eqbL args p.args && sees p.heap H then some p.v else pfind f args H ps

def pin (f : FuncId) : List Piece → Bool
  | [] => false
  | p :: ps => bif Nat.beq f p.f then true else pin f ps

def Piece.Ok (P : Program) (G : Nat → Option (List AV)) (p : Piece) : Prop := ∀ H2, sees p.heap H2 = true → ACalls P G p.f p.args H2 fun r H' => r = .ret p.v ∧ H' = H2

def E1of (E0 : REnv) : REnv := { E0 with wo := woK E0 100000 }
def porc (E0 : REnv) (ps : List Piece) (f : FuncId) (args : List AV) (H : List AObj) : Option Out :=
  match pfind f args H ps with
  | some v => some (.ret v, H)
  | none => bif pin f ps then callE kdec (E1of E0) 100000 f args H else E0.orc f args H
def EPo (E0 : REnv) (ps : List Piece) : REnv := { E0 with fn := fun f => bif pin f ps then none else E0.fn f, orc := porc E0 ps }
def EP (E0 : REnv) (ps : List Piece) : REnv := { EPo E0 ps with wo := woK (EPo E0 ps) 100000 }

theorem pfind_ok {P : Program} {G : Nat → Option (List AV)} {f : FuncId} {args : List AV} {H : List AObj} {v : AV} : ∀ {ps : List Piece}, (∀ p ∈ ps, p.Ok P G) → pfind f args H ps = some v → ACalls P G f args H fun r H' => r = .ret v ∧ H' = H
  | [], _, h => by cases h
  | p :: ps, hp, h => by
    unfold pfind at h
    cases hb : (Nat.beq f p.f && AV.eqbL args p.args && sees p.heap H) with
    | true =>
      rw [hb] at h; cases h
      simp only [Bool.and_eq_true] at hb
      rw [Nat.eq_of_beq_eq_true hb.1.1, AV.eqbL_eq hb.1.2]
      exact hp p (by simp) H hb.2
    | false => rw [hb] at h; exact pfind_ok (fun q hq => hp q (by simp [hq])) h

section
variable {E0 : REnv} (h0 : E0.Ok) (hG : ∀ n g cs, E0.G g = some cs → wkbL n cs = true)

include h0 hG in
theorem E1of_ok : (E1of E0).Ok := ⟨h0.mixed, h0.fn, h0.dfn, fun _ _ _ _ _ h => woK_ok h0 hG h, h0.orc⟩

include h0 hG in
theorem EPo_ok {ps : List Piece} (hp : ∀ p ∈ ps, p.Ok E0.P E0.G) (hw : ∀ f args H, E0.wo f args H = none) : (EPo E0 ps).Ok := ⟨h0.mixed, fun f af h => by
    have h' : (bif pin f ps then none else E0.fn f) = some af := h
    cases hb : pin f ps with
    | true => rw [hb] at h'; cases h'
    | false => rw [hb] at h'; exact h0.fn f af h', h0.dfn, (fun f args H v L h => by
    have h' : E0.wo f args H = some (v, L) := h
    rw [hw] at h'; cases h'), fun f args H r H' h => by
    have h' : porc E0 ps f args H = some (r, H') := h
    unfold porc at h'
    split at h'
    · rename_i v hv
      cases h'
      exact pfind_ok hp hv
    · cases hb : pin f ps with
      | true =>
        rw [hb] at h'
        exact ((all_sound (E1of_ok h0 hG) 100000).2 _ _ _ _ _ h').mono fun r H' e => e
      | false => rw [hb] at h'; exact h0.orc _ _ _ _ _ h'⟩

include h0 hG in
theorem EP_ok {ps : List Piece} (hp : ∀ p ∈ ps, p.Ok E0.P E0.G) (hw : ∀ f args H, E0.wo f args H = none) : (EP E0 ps).Ok :=
  have h := EPo_ok h0 hG hp hw
  ⟨h.mixed, h.fn, h.dfn, fun _ _ _ _ _ e => woK_ok h hG e, h.orc⟩

include h0 hG in
theorem pieces_cons {ps : List Piece} (hp : ∀ p ∈ ps, p.Ok E0.P E0.G) (hw : ∀ f args H, E0.wo f args H = none) {p : Piece} (h : alone (EP E0 ps) 100000 p.f p.args p.heap = some p.v) : ∀ q ∈ p :: ps, q.Ok E0.P E0.G := fun q hq => by
  rcases List.mem_cons.1 hq with rfl | hq
  · exact fun H2 hs => piece_ok (EP_ok h0 hG hp hw) hG h hs
  · exact hp q hq

end
end Go.Am
end

section
set_option linter.unusedSimpArgs false
namespace Go.Am
open Go.RowKit Go.ChangeShapes

/-- What is known when a law is called: all that lies there; none of it will be written to. -/
def Know.start (W : World) (G : Nat → Option (List AV)) : Know :=
  { imm := fun b o => W.cell? ⟨b, o, none⟩, own := fun _ => none, loc := [], base := fun b => W.heap.size ≤ b, w0 := W, glob := G, shape := shpOf W }

theorem Inv.start (W : World) (G : Nat → Option (List AV)) (hG : ∀ (g : Nat) (cs : List AV), G g = some cs → V (Know.start W G) (.vptr cs.length [cs] 0 0) (.pointer (some ⟨g, 0, none⟩))) : Inv (Know.start W G) [] W :=
  ⟨Kept.refl _ _, fun _ h => h, fun _ _ _ h => h, rfl, (fun id x h => by simp at h), (fun i j x y h => by simp at h), (fun b t n h => by cases h), hG, fun b s h => shpOf_ok h⟩

section
variable {P : Program}

theorem law_calls {G : Nat → Option (List AV)} {f : FuncId} {args : List AV} {W : World} {cargs : Array Value} (h : ACalls P G f args [] fun r H' => r = .ret (.bool true) ∧ H' = [])
    (hG : ∀ (g : Nat) (cs : List AV), G g = some cs → V (Know.start W G) (.vptr cs.length [cs] 0 0) (.pointer (some ⟨g, 0, none⟩)))
    (hb : (callFunc f cargs).run P W = .ok (.enter f cargs) W) (hv : Vs (Know.start W G) args cargs) : Calls P f cargs W fun e w' => e = .returned (.bool true) ∧ Below W.heap.size W w' := by
  rcases h (Know.start W G) W cargs rfl (Inv.start W G hG) hv with ⟨_, h2⟩ | ⟨cv, w', h1, _⟩
  · refine h2.mono ?_
    rintro e w' ⟨K', r, H', hk, he, hi, rfl, rfl⟩
    have hkept := hi.below
    rw [hk.base, hk.w0] at hkept
    refine ⟨?_, hkept.below fun b hb => hb⟩
    cases e with
    | panicked c => exact he.elim
    | outgrown => exact he.elim
    | returned x =>
      have hx : V K' (.bool true) x := he
      cases hx; rfl
  · rw [hb] at h1; cases h1

/-- The arguments read as they did. -/
theorem trodAll_below {H : Type} {enc : TypeId × Value → H} (hl : laidOutB P = true) {W W' : World} (hb : Below W.heap.size W W') : ∀ (ts : List TypeId) (vs : List Value) (ds : List (DataW H)) (ps : List MemPlace),
    (∀ t ∈ ts, P.readableRec t = true ∧ t < P.types.size) → DataW.TrodAll enc P W 0 (fun _ => true) true ts vs ds ps → (∀ x ∈ ps, x.block < W.heap.size) →
    DataW.TrodAll enc P W' 0 (fun b => decide (b < W.heap.size)) true ts vs ds ps
  | [], _, _, _, _, h, _ => by
    obtain ⟨rfl, rfl, rfl⟩ := trodAll_nil h
    rfl
  | t :: ts, _, _, _, hr, h, hlt => by
    obtain ⟨v, vs1, d, ds1, a, b, rfl, rfl, rfl, h1, h2⟩ := trodAll_cons h
    exact ⟨a, b, Below.trod hl (hr t (by simp)).1 (hr t (by simp)).2 h1 hb (fun x hx => hlt x (by simp [hx])), trodAll_below hl hb ts vs1 ds1 b (fun u hu => hr u (by simp [hu])) h2 (fun x hx => hlt x (by simp [hx])), rfl⟩

end
end Go.Am
end

section
namespace Go.Am.Sh
open Go.RowKit

/-! Short words for code. -/
abbrev t (n : Nat) : RX := .t n
abbrev i (n : Int) : RX := .c (.int .i64 n)
abbrev u (n : Int) : RX := .c (.int .u8 n)
abbrev T : RX := .c (.bool true)
abbrev F : RX := .c (.bool false)
abbrev s (x : List UInt8) : RX := .c (.str x)
abbrev f (n : Nat) : RX := .c (.fn (.func n) [] [])
abbrev o (d : Nat) (x : ROp) : RO := ⟨some d, none, .op x⟩
abbrev n (x : ROp) : RO := ⟨none, none, .op x⟩
abbrev g (d q : Nat) (x : ROp) : RO := ⟨some d, some (q, true), .op x⟩
abbrev h (d q : Nat) (x : ROp) : RO := ⟨some d, some (q, false), .op x⟩
abbrev k (d : Nat) (x : RX) (l : List RX) : RO := ⟨some d, none, .call x l⟩
abbrev m (d x : Nat) : RO := ⟨some d, none, .op (.mv (.t x))⟩
abbrev mc (d : Nat) (x : RX) : RO := ⟨some d, none, .op (.mv x)⟩
abbrev ld (d x : Nat) : RO := ⟨some d, none, .op (.ld none (.t x))⟩
abbrev la (d j x : Nat) : RO := ⟨some d, none, .op (.ld (some j) (.t x))⟩
abbrev fa (d j x : Nat) : RO := ⟨some d, none, .op (.fa j (.t x))⟩
abbrev ia (d j x y : Nat) : RO := ⟨some d, none, .op (.ias j (.t x) (.t y))⟩
abbrev ls (d x : Nat) : RO := ⟨some d, none, .op (.len .sl (.t x))⟩
abbrev lt (d x : Nat) : RO := ⟨some d, none, .op (.len .str (.t x))⟩
abbrev ad (d x : Nat) : RO := ⟨some d, none, .op (.ar .add (.t x) (.c (.int .i64 1)))⟩
abbrev bl (d x y : Nat) : RO := ⟨some d, none, .op (.ar .lss (.t x) (.t y))⟩
abbrev no (d x : Nat) : RO := ⟨some d, none, .op (.un .not (.t x))⟩
abbrev ex (d x j : Nat) : RO := ⟨some d, none, .op (.ex (.t x) j)⟩
abbrev P (x : RO) : RO × Cl := (x, .pure)
abbrev W (x : RO) : RO × Cl := (x, .wide)
abbrev E (x : RO) : RO × Cl := (x, .eff)
abbrev K (x : RO) : RO × Cl := (x, .keep)
abbrev Q (x y : AC) : AC := .seq x y
abbrev C (c : Nat) (x y : AC) : AC := .cond (.t c) x y
abbrev O (l : List RO) : AC := .ops l
abbrev D (l : List (RO × Cl)) : AC := .dops false [] [] l
abbrev Y (l : List Nat) : AC := .lv l
abbrev R : AC := .ret
abbrev X : AC := .skip

end Go.Am.Sh
end

section
namespace Go.Am
open Go.RowKit
def f_truchmanlaw02_MorphKnown : FuncId := 3
def f_morph_Parse : FuncId := 7
def f_morph_Steps : FuncId := 8
def f_morph_Form : FuncId := 9
def f_truchmanlaw02_SameStrings : FuncId := 10
def f_morph_Analyze : FuncId := 11
def f_truchmanlaw02_SameAnalysis : FuncId := 12
def f_morph_Generate : FuncId := 13
def f_morph_Spell : FuncId := 14
def f_morph_Unify : FuncId := 15
def f_morph_Name : FuncId := 16
def f_morph_Word : FuncId := 17
def f_morph_Plain : FuncId := 18
def f_truchmanlaw02_lives : FuncId := 19
def f_morph_Subsumes : FuncId := 22
def f_strings_Split : FuncId := 31
def f_morph_reader_read : FuncId := 32
def f_morph_Check : FuncId := 33
def f_morph_asked : FuncId := 34
def f_morph_language_steps : FuncId := 35
def f_morph_language_form : FuncId := 36
def f_morph_language_analyze : FuncId := 37
def f_morph_Bundle : FuncId := 38
def f_morph_language_slots : FuncId := 39
def f_morph_language_slot : FuncId := 40
def f_morph_language_feats : FuncId := 41
def f_slices_Contains_string_string : FuncId := 42
def f_morph_all : FuncId := 43
def f_morph_symbol : FuncId := 44
def f_morph_language_spell : FuncId := 45
def f_morph_increasing : FuncId := 46
def f_morph_clash : FuncId := 47
def f_morph_union : FuncId := 48
def f_morph_Name_1 : FuncId := 49
def f_morph_letter : FuncId := 50
def f_morph_Name_2 : FuncId := 51
def f_morph_Word_1 : FuncId := 52
def f_slices_ContainsFunc_api_Feat_api_Feat : FuncId := 53
def f_morph_Subsumes_1 : FuncId := 54
def f_slices_Contains_api_Feat_api_Feat : FuncId := 55
def f_strings_genSplit : FuncId := 62
def f_morph_reader_read_1 : FuncId := 63
def f_morph_kinds : FuncId := 64
def f_morph_demand : FuncId := 65
def f_strings_SplitN : FuncId := 66
def f_morph_first : FuncId := 67
def f_morph_checker_vowels : FuncId := 68
def f_morph_Check_1 : FuncId := 69
def f_morph_each_api_Trait : FuncId := 70
def f_morph_checker_trait : FuncId := 71
def f_morph_Check_2 : FuncId := 72
def f_morph_each_api_Class : FuncId := 73
def f_morph_checker_class : FuncId := 74
def f_morph_Check_3 : FuncId := 75
def f_morph_each_api_Entry : FuncId := 76
def f_morph_checker_entry : FuncId := 77
def f_morph_Check_4 : FuncId := 78
def f_morph_each_api_Spell : FuncId := 79
def f_morph_checker_spell : FuncId := 80
def f_morph_Check_5 : FuncId := 81
def f_morph_each_api_Link : FuncId := 82
def f_morph_checker_link : FuncId := 83
def f_morph_language_underlying : FuncId := 84
def f_strings_ReplaceAll : FuncId := 85
def f_morph_language_shapes : FuncId := 86
def f_morph_language_openings : FuncId := 87
def f_morph_analyses : FuncId := 88
def f_morph_checker_bundle : FuncId := 89
def f_morph_classOf : FuncId := 90
def f_slices_Index_string_string : FuncId := 91
def f_strings_HasPrefix : FuncId := 92
def f_morph_language_left : FuncId := 93
def f_morph_language_right : FuncId := 94
def f_strings_Builder_WriteString : FuncId := 95
def f_strings_Builder_WriteByte : FuncId := 96
def f_strings_Builder_String : FuncId := 97
def f_strings_Builder_Len : FuncId := 98
def f_morph_clash_1 : FuncId := 99
def f_morph_clash_1_1 : FuncId := 100
def f_slices_Concat_api_Feat_api_Feat : FuncId := 101
def f_slices_SortFunc_api_Feat_api_Feat : FuncId := 102
def f_morph_union_1 : FuncId := 103
def f_strings_Compare : FuncId := 104
def f_slices_Compact_api_Feat_api_Feat : FuncId := 105
def f_slices_IndexFunc_api_Feat_api_Feat : FuncId := 106
def f_slices_Index_api_Feat_api_Feat : FuncId := 107
def f_strings_explode : FuncId := 115
def f_strings_Count : FuncId := 116
def f_strings_Index : FuncId := 117
def f_morph_kinds_1 : FuncId := 118
def f_morph_text : FuncId := 119
def f_morph_kinds_2 : FuncId := 120
def f_morph_kinds_3 : FuncId := 121
def f_morph_kinds_4 : FuncId := 122
def f_morph_number : FuncId := 123
def f_morph_feats : FuncId := 124
def f_morph_kinds_5 : FuncId := 125
def f_morph_kinds_6 : FuncId := 126
def f_morph_kinds_7 : FuncId := 127
def f_morph_kinds_8 : FuncId := 128
def f_slices_ContainsFunc_api_Trait_api_Trait : FuncId := 129
def f_morph_checker_trait_1 : FuncId := 130
def f_slices_ContainsFunc_api_Class_api_Class : FuncId := 131
def f_morph_checker_class_1 : FuncId := 132
def f_morph_each_api_Slot : FuncId := 133
def f_morph_checker_class_2 : FuncId := 134
def f_morph_short : FuncId := 135
def f_slices_ContainsFunc_api_Entry_api_Entry : FuncId := 136
def f_morph_checker_entry_1 : FuncId := 137
def f_slices_ContainsFunc_api_Slot_api_Slot : FuncId := 138
def f_morph_checker_entry_2 : FuncId := 139
def f_slices_ContainsFunc_api_Irregular_api_Irregular : FuncId := 140
def f_morph_checker_entry_3 : FuncId := 141
def f_morph_around : FuncId := 142
def f_strings_Replace : FuncId := 143
def f_morph_language_opens : FuncId := 144
def f_slices_Clone_api_First_api_First : FuncId := 145
def f_strings_CutPrefix : FuncId := 146
def f_morph_each_api_Feat : FuncId := 147
def f_morph_checker_bundle_1 : FuncId := 148
def f_slices_IndexFunc_api_Trait_api_Trait : FuncId := 149
def f_morph_checker_bundle_1_1 : FuncId := 150
def f_slices_IndexFunc_api_Class_api_Class : FuncId := 151
def f_morph_classOf_1 : FuncId := 152
def f_internal_stringslite_HasPrefix : FuncId := 153
def f_morph_language_match : FuncId := 154
def f_strings_Builder_copyCheck : FuncId := 155
def f_slices_Grow_api_Feat_api_Feat : FuncId := 156
def f_slices_pdqsortCmpFunc_api_Feat : FuncId := 157
def f_math_bits_Len : FuncId := 158
def f_internal_bytealg_CompareString : FuncId := 159
def f_unicode_utf8_RuneCountInString : FuncId := 166
def f_unicode_utf8_DecodeRuneInString : FuncId := 167
def f_internal_bytealg_CountString : FuncId := 168
def f_internal_stringslite_Index : FuncId := 169
def f_strconv_Atoi : FuncId := 170
def f_strconv_Itoa : FuncId := 171
def f_strings_Cut : FuncId := 172
def f_slices_IndexFunc_api_Entry_api_Entry : FuncId := 173
def f_slices_IndexFunc_api_Slot_api_Slot : FuncId := 174
def f_slices_IndexFunc_api_Irregular_api_Irregular : FuncId := 175
def f_strings_Builder_Grow : FuncId := 176
def f_internal_stringslite_CutPrefix : FuncId := 177
def f_strings_IndexByte : FuncId := 178
def f_internal_abi_NoEscape : FuncId := 179
def f_slices_insertionSortCmpFunc_api_Feat : FuncId := 180
def f_slices_heapSortCmpFunc_api_Feat : FuncId := 181
def f_slices_breakPatternsCmpFunc_api_Feat : FuncId := 182
def f_slices_choosePivotCmpFunc_api_Feat : FuncId := 183
def f_slices_reverseRangeCmpFunc_api_Feat : FuncId := 184
def f_slices_partialInsertionSortCmpFunc_api_Feat : FuncId := 185
def f_slices_partitionEqualCmpFunc_api_Feat : FuncId := 186
def f_slices_partitionCmpFunc_api_Feat : FuncId := 187
def f_math_bits_Len32 : FuncId := 188
def f_math_bits_Len64 : FuncId := 189
def f_internal_bytealg_abigen_runtime_cmpstring : FuncId := 190
def f_unicode_utf8_decodeRuneInStringSlow : FuncId := 193
def f_internal_stringslite_IndexByte : FuncId := 194
def f_internal_bytealg_IndexString : FuncId := 195
def f_internal_bytealg_Cutover : FuncId := 196
def f_internal_bytealg_IndexRabinKarp_string : FuncId := 197
def f_internal_strconv_Atoi : FuncId := 198
def f_strconv_toError : FuncId := 199
def f_internal_strconv_Itoa : FuncId := 200
def f_internal_stringslite_Cut : FuncId := 201
def f_strings_Builder_grow : FuncId := 202
def f_slices_siftDownCmpFunc_api_Feat : FuncId := 203
def f_slices_nextPowerOfTwo : FuncId := 204
def f_slices_xorshift_Next : FuncId := 205
def f_slices_medianAdjacentCmpFunc_api_Feat : FuncId := 206
def f_slices_medianCmpFunc_api_Feat : FuncId := 207
def f_internal_bytealg_IndexByteString : FuncId := 208
def f_internal_bytealg_hashStr_string : FuncId := 209
def f_internal_strconv_ParseInt : FuncId := 210
def f_strconv_syntaxError : FuncId := 211
def f_strconv_rangeError : FuncId := 212
def f_strconv_baseError : FuncId := 213
def f_strconv_bitSizeError : FuncId := 214
def f_internal_strconv_FormatInt : FuncId := 215
def f_internal_bytealg_MakeNoZero : FuncId := 216
def f_slices_order2CmpFunc_api_Feat : FuncId := 217
def f_internal_strconv_ParseUint : FuncId := 218
def f_internal_stringslite_Clone : FuncId := 219
def f_errors_New : FuncId := 220
def f_internal_strconv_small : FuncId := 221
def f_internal_strconv_numDigits : FuncId := 222
def f_internal_strconv_formatBase10 : FuncId := 223
def f_internal_strconv_formatBits : FuncId := 224
def f_internal_strconv_lower : FuncId := 225
def f_internal_strconv_underscoreOK : FuncId := 226
def f_internal_strconv_log10Pow2 : FuncId := 227
def f_internal_strconv_bool2_int : FuncId := 228
def f_internal_strconv_isPowerOfTwo : FuncId := 229
def f_math_bits_TrailingZeros : FuncId := 230
def f_math_bits_TrailingZeros32 : FuncId := 231
def f_math_bits_TrailingZeros64 : FuncId := 232
def t_ : TypeId := 0
def t_int : TypeId := 3
def t_bool : TypeId := 4
def t_uint8 : TypeId := 5
def t_string : TypeId := 9
def t_api_Lexicon : TypeId := 28
def t_api_Analysis : TypeId := 44
def t_api_First : TypeId := 46
def t_api_Feat : TypeId := 49
def t_sl_api_Feat : TypeId := 50
def t_api_Spell : TypeId := 52
def t_morph_reader : TypeId := 67
def t_morph_language : TypeId := 70
def t_api_Slot : TypeId := 72
def t_api_Entry : TypeId := 82
def t_func_uint8_bool : TypeId := 89
def t_api_Trait : TypeId := 99
def t_api_Class : TypeId := 102
def t_api_Irregular : TypeId := 104
def t_api_Link : TypeId := 106
def t_morph_wrong : TypeId := 114
def t_morph_kind : TypeId := 117
def t_morph_checker : TypeId := 123
def t_strings_Builder : TypeId := 150
def t_morph_shape : TypeId := 190
def t_morph_opening : TypeId := 193
def t_slices_xorshift : TypeId := 234
def t_utf8_acceptRange : TypeId := 242
def t_strconv_Error : TypeId := 246
def t_p_strconv_NumError : TypeId := 249
def t_strconv_NumError : TypeId := 260
def t_24_uint8 : TypeId := 262
def t_p_errors_errorString : TypeId := 267
def t_errors_errorString : TypeId := 269
def t_65_uint8 : TypeId := 272
end Go.Am
end

